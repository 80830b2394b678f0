import PyProof.Rows.All
import HandS.ForMost
import HandS.ForExc
import HandS.Small
import HandS.HotCalls
import HandS.ExcIs
import HandS.IsInst
import HandS.Wide
import HandS.Strs
import HandS.TupAny
import HandS.Deep
import HandS.Zip
import HandS.SetFor
import HandS.Style
import PyProof.FactsAll.list_3
import PyProof.FactsAll.list_4
import PySem.Challenge.RW_fewdistances_k40_sums_of_two_squares
set_option Elab.async false
set_option linter.all false
set_option maxRecDepth 100000
namespace Pq
open PySem PySem.Spec PyProof.Rows L2

/-! ### data -/
inductive D where
  | non | bl (b : Bool) | int (i : Int) | str (x : Str)
  | tup (xs : List D) | lst (xs : List D)
  | dct (ks vs : List D)
  | fn (f : Nat) | cls (c : Nat) | ty (n : String)
  /-- the script -/
  | scr (ns : List Int)
  /-- an exception of the c-th class, handled -/
  | exn (c : Nat)
  deriving Inhabited
/-- what a name holds: a datum, or a thing that may be changed -/
inductive U where
  | d (x : D) | r (k : Nat)
  deriving Inhabited
/-- a thing that may be changed -/
inductive O where
  | dead | lst (xs : List D) | dct (kvs : List (D × D))
  deriving Inhabited
abbrev Ev := List (Option U)
abbrev Sto := List O
/-- an exception: its class, its fields -/
structure X1 where
  c : Nat
  fs : List D := []
inductive Out (α : Type) where
  | ok (a : α) (S : Sto)
  | exc (x : X1) (S : Sto)
  | bad
def Out.bind {α β : Type} (o : Out α) (f : α → Sto → Out β) : Out β := match o with
  | .ok a S => f a S
  | .exc x S => .exc x S
  | .bad => .bad
@[simp] theorem Out.bind_ok {α β : Type} (a : α) (S : Sto) (f : α → Sto → Out β) : (Out.ok a S).bind f = f a S := rfl
@[simp] theorem Out.bind_exc {α β : Type} (x : X1) (S : Sto) (f : α → Sto → Out β) : (Out.exc x S).bind f = .exc x S := rfl
@[simp] theorem Out.bind_bad {α β : Type} (f : α → Sto → Out β) : (Out.bad : Out α).bind f = .bad := rfl

/-- where the defs and the classes stand -/
structure Tab where
  fn : Nat → Addr
  cls : Nat → Addr
  exn : Addr → Option Nat

def kD : Key → D
  | .inl i => .int i
  | .inr x => .str x

mutual
inductive IsD (K : PySem.W.Frag) (G : Tab) (F : Hp) : V → D → Prop
  | non : IsD K G F .non .non
  | bl (b : Bool) : IsD K G F (.bl b) (.bl b)
  | int (i : Int) : IsD K G F (.int i) (.int i)
  | str (x : Str) : IsD K G F (.str x) (.str x)
  | tup {a : Addr} {vs : List V} {ds : List D} : SqT K F a vs → IsDs K G F vs ds → IsD K G F (.ref a) (.tup ds)
  | lst {a : Addr} {vs : List V} {ds : List D} : F a = some (.lst vs) → IsDs K G F vs ds → IsD K G F (.ref a) (.lst ds)
  | scr {a : Addr} {ns : List Int} : SqL K F a (ns.map V.int) → IsD K G F (.ref a) (.scr ns)
  | dct {a : Addr} {kvs : List (Key × V)} {ks ds : List D} : Rd F a (.dK kvs) → kvs.map (fun p => kD p.1) = ks → IsDs K G F (kvs.map (·.2)) ds → IsD K G F (.ref a) (.dct ks ds)
  | fn (f : Nat) : IsD K G F (.ref (G.fn f)) (.fn f)
  | cls (c : Nat) : IsD K G F (.ref (G.cls c)) (.cls c)
  | ty (n : String) : IsD K G F (.ty n) (.ty n)
  | exn {a : Addr} {c : Nat} : G.exn a = some c → IsD K G F (.ref a) (.exn c)
inductive IsDs (K : PySem.W.Frag) (G : Tab) (F : Hp) : List V → List D → Prop
  | nil : IsDs K G F [] []
  | cons {v : V} {vs : List V} {d : D} {ds : List D} : IsD K G F v d → IsDs K G F vs ds → IsDs K G F (v :: vs) (d :: ds)
end

theorem _root_.L2.Same.rd {H H' : Hp} {a : Addr} {u : HO} (e : Same H H') (h : Rd H a u) : Rd H' a u := by
  rcases h with h | ⟨o, h⟩
  · exact .inl (e _ _ h)
  · exact .inr ⟨o, e _ _ h⟩
theorem _root_.L2.Same.seqT {K : PySem.W.Frag} {H H' : Hp} {a : Addr} {xs : List V} (e : Same H H') (h : SqT K H a xs) : SqT K H' a xs := by
  rcases h with h | h
  · exact .inl (e.rd h)
  · exact .inr h

section
variable {K : PySem.W.Frag} {G : Tab} {F F' : Hp}
mutual
theorem IsD.mono (e : Same F F') : ∀ {v : V} {d : D}, IsD K G F v d → IsD K G F' v d
  | _, _, .non => .non
  | _, _, .bl b => .bl b
  | _, _, .int i => .int i
  | _, _, .str x => .str x
  | _, _, .tup h hs => .tup (e.seqT h) (IsDs.mono e hs)
  | _, _, .lst h hs => .lst (e _ _ h) (IsDs.mono e hs)
  | _, _, .scr h => .scr (e.seq h)
  | _, _, .dct h hk hs => .dct (e.rd h) hk (IsDs.mono e hs)
  | _, _, .fn f => .fn f
  | _, _, .cls c => .cls c
  | _, _, .ty n => .ty n
  | _, _, .exn h => .exn h
theorem IsDs.mono (e : Same F F') : ∀ {vs : List V} {ds : List D}, IsDs K G F vs ds → IsDs K G F' vs ds
  | _, _, .nil => .nil
  | _, _, .cons h t => .cons (IsD.mono e h) (IsDs.mono e t)
end
theorem IsDs.length : ∀ {vs : List V} {ds : List D}, IsDs K G F vs ds → vs.length = ds.length
  | _, _, .nil => rfl
  | _, _, .cons _ t => by simp [IsDs.length t]
theorem IsDs.append : ∀ {vs ws : List V} {ds es : List D}, IsDs K G F vs ds → IsDs K G F ws es → IsDs K G F (vs ++ ws) (ds ++ es)
  | _, _, _, _, .nil, h => h
  | _, _, _, _, .cons a t, h => .cons a (IsDs.append t h)
theorem IsDs.get : ∀ {vs : List V} {ds : List D} {i : Nat} {d : D}, IsDs K G F vs ds → ds[i]? = some d → ∃ v, vs[i]? = some v ∧ IsD K G F v d
  | _, _, _, _, .nil, e => by simp at e
  | _, _, 0, _, .cons h _, e => by simp at e; subst e; exact ⟨_, rfl, h⟩
  | _, _, i + 1, d, .cons _ t, e => by
    obtain ⟨v, h1, h2⟩ := IsDs.get (i := i) (d := d) t (by simpa using e)
    exact ⟨v, by simpa using h1, h2⟩
theorem IsDs.getV : ∀ {vs : List V} {ds : List D} {i : Nat} {v : V}, IsDs K G F vs ds → vs[i]? = some v → ∃ d, ds[i]? = some d ∧ IsD K G F v d
  | _, _, _, _, .nil, e => by simp at e
  | _, _, 0, _, .cons h _, e => by simp at e; subst e; exact ⟨_, rfl, h⟩
  | _, _, i + 1, v, .cons _ t, e => by
    obtain ⟨d, h1, h2⟩ := IsDs.getV (i := i) (v := v) t (by simpa using e)
    exact ⟨d, by simpa using h1, h2⟩
theorem IsDs.drop : ∀ {vs : List V} {ds : List D} (n : Nat), IsDs K G F vs ds → IsDs K G F (vs.drop n) (ds.drop n)
  | _, _, 0, h => h
  | _, _, _ + 1, .nil => .nil
  | _, _, n + 1, .cons _ t => IsDs.drop n t
theorem IsDs.take : ∀ {vs : List V} {ds : List D} (n : Nat), IsDs K G F vs ds → IsDs K G F (vs.take n) (ds.take n)
  | _, _, 0, _ => .nil
  | _, _, _ + 1, .nil => .nil
  | _, _, n + 1, .cons h t => .cons h (IsDs.take n t)
theorem IsDs.set {v : V} {d : D} (h : IsD K G F v d) : ∀ {vs : List V} {ds : List D} (i : Nat), IsDs K G F vs ds → IsDs K G F (vs.set i v) (ds.set i d)
  | _, _, _, .nil => .nil
  | _, _, 0, .cons _ t => .cons h t
  | _, _, i + 1, .cons q t => .cons q (IsDs.set h i t)
theorem IsDs.reverse : ∀ {vs : List V} {ds : List D}, IsDs K G F vs ds → IsDs K G F vs.reverse ds.reverse
  | _, _, .nil => .nil
  | _, _, .cons h t => by
    rw [List.reverse_cons, List.reverse_cons]
    exact (IsDs.reverse t).append (.cons h .nil)

/-! ### data that python compares: as PyData -/
mutual
def py : D → PyData
  | .non => .none
  | .bl b => .bool b
  | .int i => .int i
  | .str x => .str x
  | .tup xs => .tuple (pys xs)
  | .lst xs => .list (pys xs)
  | .dct _ _ => .none | .fn _ => .none | .cls _ => .none | .ty _ => .none | .scr _ => .none | .exn _ => .none
def pys : List D → List PyData
  | [] => []
  | d :: ds => py d :: pys ds
end
mutual
def can : D → Bool
  | .non => true | .bl _ => true | .int _ => true
  | .str x => PyData.strOk x
  | .tup xs => cans xs
  | .lst xs => cans xs
  | .dct _ _ => false | .fn _ => false | .cls _ => false | .ty _ => false | .scr _ => false | .exn _ => false
def cans : List D → Bool
  | [] => true
  | d :: ds => can d && cans ds
end
mutual
def dep : D → Nat
  | .tup xs => deps xs + 1
  | .lst xs => deps xs + 1
  | .non => 0 | .bl _ => 0 | .int _ => 0 | .str _ => 0 | .dct _ _ => 0 | .fn _ => 0 | .cls _ => 0 | .ty _ => 0 | .scr _ => 0 | .exn _ => 0
def deps : List D → Nat
  | [] => 0
  | d :: ds => max (dep d) (deps ds)
end
mutual
theorem dp_of : ∀ {v : V} {d : D}, IsD K G F v d → can d = true → Dp K F v (py d)
  | _, _, .non, e => .non
  | _, _, .bl b, e => .bl b
  | _, _, .int i, e => .int i
  | _, _, .str x, e => .str x
  | _, _, .tup h hs, e => .tup h (dps_of hs e)
  | _, _, .lst h hs, e => .lst (SqL.of h) (dps_of hs e)
  | _, _, .scr _, e => by simp [can] at e
  | _, _, .dct .., e => by simp [can] at e
  | _, _, .fn f, e => by simp [can] at e
  | _, _, .cls f, e => by simp [can] at e
  | _, _, .ty f, e => by simp [can] at e
  | _, _, .exn f, e => by simp [can] at e
theorem dps_of : ∀ {vs : List V} {ds : List D}, IsDs K G F vs ds → cans ds = true → DpAll K F vs (pys ds)
  | _, _, .nil, e => .nil
  | _, _, .cons h t, e => by
    simp only [cans, Bool.and_eq_true] at e
    exact .cons (dp_of h e.1) (dps_of t e.2)
end
mutual
theorem canLay_of : ∀ d : D, can d = true → (py d).canLay0 = true
  | .non, _ => by simp [py, PyData.canLay0]
  | .bl _, _ => by simp [py, PyData.canLay0]
  | .int _, _ => by simp [py, PyData.canLay0]
  | .str x, h => by simpa [py, PyData.canLay0, can] using h
  | .tup xs, h => by
    simp only [py, PyData.canLay0]
    exact canLays_of xs (by simpa [can] using h)
  | .lst xs, h => by
    simp only [py, PyData.canLay0]
    exact canLays_of xs (by simpa [can] using h)
  | .dct _ _, h => by simp [can] at h
  | .fn _, h => by simp [can] at h
  | .cls _, h => by simp [can] at h
  | .ty _, h => by simp [can] at h
  | .scr _, h => by simp [can] at h
  | .exn _, h => by simp [can] at h
theorem canLays_of : ∀ ds : List D, cans ds = true → PyData.canLayAll0 (pys ds) = true
  | [], _ => by simp [pys, PyData.canLayAll0]
  | d :: ds, h => by
    simp only [cans, Bool.and_eq_true] at h
    simp [pys, PyData.canLayAll0, canLay_of d h.1, canLays_of ds h.2]
end
mutual
theorem dep_of : ∀ d : D, (py d).depth = dep d
  | .non => by simp [py, PyData.depth, dep]
  | .bl _ => by simp [py, PyData.depth, dep]
  | .int _ => by simp [py, PyData.depth, dep]
  | .str x => by simp [py, PyData.depth, dep]
  | .tup xs => by simp [py, PyData.depth, dep, deps_of xs]
  | .lst xs => by simp [py, PyData.depth, dep, deps_of xs]
  | .dct _ _ => by simp [py, PyData.depth, dep]
  | .fn _ => by simp [py, PyData.depth, dep]
  | .cls _ => by simp [py, PyData.depth, dep]
  | .ty _ => by simp [py, PyData.depth, dep]
  | .scr _ => by simp [py, PyData.depth, dep]
  | .exn _ => by simp [py, PyData.depth, dep]
theorem deps_of : ∀ ds : List D, PyData.depthAll (pys ds) = deps ds
  | [] => by simp [pys, PyData.depthAll, deps]
  | d :: ds => by simp [pys, PyData.depthAll, deps, dep_of d, deps_of ds]
end
/-- == -/
def eqd (x y : D) : Bool := PyData.eqv (py x) (py y)
def eqds (xs ys : List D) : Bool := PyData.eqvAll (pys xs) (pys ys)
end

/-! ### the things that may be changed, and the heap -/
section
variable (K : PySem.W.Frag) (G : Tab)
def IsO (F H : Hp) (a : Addr) : O → Prop
  | .dead => True
  | .lst ds => ∃ vs, H a = some (.lst vs) ∧ IsDs K G F vs ds
  | .dct kvs => ∃ kws : List (Key × V), H a = some (.dK kws) ∧ kws.map (fun p => kD p.1) = kvs.map (·.1) ∧ IsDs K G F (kws.map (·.2)) (kvs.map (·.2))
def IsU (F : Hp) (μ : List Addr) (v : V) : U → Prop
  | .d x => IsD K G F v x
  | .r k => ∃ a, μ[k]? = some a ∧ v = .ref a
/-- F: what stands for good; μ: where the changing things stand -/
structure Rl (F : Hp) (μ : List Addr) (S : Sto) (H : Hp) : Prop where
  sub : Same F H
  len : μ.length = S.length
  obj : ∀ (k : Nat) (a : Addr) (o : O), μ[k]? = some a → S[k]? = some o → o ≠ .dead → F a = none ∧ IsO K G F H a o
  inj : ∀ (j k : Nat) (a : Addr) (p q : O), μ[j]? = some a → μ[k]? = some a → S[j]? = some p → S[k]? = some q → p ≠ .dead → q ≠ .dead → j = k
  thr : ∀ a ∈ μ, ∃ o, H a = some o
end
/-- from (F, μ, H) on to (F', μ', H') -/
structure Ex (F : Hp) (μ : List Addr) (H : Hp) (F' : Hp) (μ' : List Addr) (H' : Hp) : Prop where
  fr : Same F F'
  pre : ∃ t, μ' = μ ++ t
  keep : ∀ b o, H b = some o → b ∉ μ → H' b = some o
  new : ∀ b o, F' b = some o → F b = some o ∨ H b = none ∨ b ∈ μ
  newμ : ∀ b, b ∈ μ' → b ∈ μ ∨ H b = none
theorem Ex.refl (F : Hp) (μ : List Addr) (H : Hp) : Ex F μ H F μ H := ⟨Same.refl _, ⟨[], by simp⟩, fun _ _ h _ => h, fun _ _ h => .inl h, fun _ h => .inl h⟩
theorem Ex.trans {F μ H F' μ' H' F'' μ'' H''} (a : Ex F μ H F' μ' H') (b : Ex F' μ' H' F'' μ'' H'') : Ex F μ H F'' μ'' H'' where
  fr := a.fr.trans b.fr
  pre := by
    obtain ⟨t, e⟩ := a.pre
    obtain ⟨u, e'⟩ := b.pre
    exact ⟨t ++ u, by rw [e', e, List.append_assoc]⟩
  keep := fun c o h hn => by
    refine b.keep c o (a.keep c o h hn) fun hm => ?_
    rcases a.newμ c hm with z | z
    · exact hn z
    · rw [h] at z; cases z
  new := fun c o h => by
    have back : ∀ q, H c = some q → c ∉ μ → H' c = some q := fun q e hn => a.keep c q e hn
    rcases b.new c o h with z | z | z
    · exact a.new c o z
    · by_cases hm : c ∈ μ
      · exact .inr (.inr hm)
      · cases e : H c with
        | none => exact .inr (.inl rfl)
        | some q => rw [back q e hm] at z; cases z
    · rcases a.newμ c z with z | z
      · exact .inr (.inr z)
      · exact .inr (.inl z)
  newμ := fun c h => by
    rcases b.newμ c h with z | z
    · exact a.newμ c z
    · by_cases hm : c ∈ μ
      · exact .inl hm
      · cases e : H c with
        | none => exact .inr rfl
        | some q => rw [a.keep c q e hm] at z; cases z
theorem Ex.get {F μ H F' μ' H'} (a : Ex F μ H F' μ' H') {k : Nat} {b : Addr} (h : μ[k]? = some b) : μ'[k]? = some b := by
  obtain ⟨t, e⟩ := a.pre
  rw [e]
  rw [List.getElem?_append_left (List.getElem?_eq_some_iff.mp h).1]
  exact h
section
variable {K : PySem.W.Frag} {G : Tab} {F F' H H' : Hp} {μ μ' : List Addr}
theorem IsU.mono (e : Ex F μ H F' μ' H') {v : V} {u : U} (h : IsU K G F μ v u) : IsU K G F' μ' v u := by
  cases u with
  | d x => exact IsD.mono e.fr h
  | r k =>
    obtain ⟨a, h1, h2⟩ := h
    exact ⟨a, e.get h1, h2⟩
theorem Rl.not_mem {S : Sto} (R : Rl K G F μ S H) {a : Addr} {k : Nat} {o : O} (h : μ[k]? = some a) (hs : S[k]? = some o) (hd : o ≠ .dead) : F a = none := (R.obj k a o h hs hd).1
end

/-! ### names -/
def EnvIs (K : PySem.W.Frag) (G : Tab) (F : Hp) (μ : List Addr) (σ : L2.St) (ρ : Ev) : Prop :=
  σ.length = ρ.length ∧ ∀ (i : Nat) (u : U), ρ[i]? = some (some u) → ∃ v, σ[i]? = some (some v) ∧ IsU K G F μ v u
section
variable {K : PySem.W.Frag} {G : Tab} {F F' H H' : Hp} {μ μ' : List Addr} {σ : L2.St} {ρ : Ev}
theorem EnvIs.mono (e : Ex F μ H F' μ' H') (h : EnvIs K G F μ σ ρ) : EnvIs K G F' μ' σ ρ := ⟨h.1, fun i u hi => by
  obtain ⟨v, h1, h2⟩ := h.2 i u hi
  exact ⟨v, h1, h2.mono e⟩⟩
theorem EnvIs.set (h : EnvIs K G F μ σ ρ) {v : V} {u : U} (hu : IsU K G F μ v u) (i : Nat) : EnvIs K G F μ (σ.set i (some v)) (ρ.set i (some u)) := by
  refine ⟨by simp [h.1], fun j w hj => ?_⟩
  by_cases e : i = j
  · subst e
    by_cases hi : i < ρ.length
    · rw [List.getElem?_set_self hi] at hj
      cases hj
      exact ⟨v, List.getElem?_set_self (by rw [h.1]; exact hi), hu⟩
    · rw [List.getElem?_eq_none (by simpa using hi)] at hj; cases hj
  · rw [List.getElem?_set_ne e] at hj ⊢
    exact h.2 j w hj
/-- forgetting -/
theorem EnvIs.unset (h : EnvIs K G F μ σ ρ) (i : Nat) : EnvIs K G F μ σ (ρ.set i none) := by
  refine ⟨by simp [h.1], fun j w hj => ?_⟩
  by_cases e : i = j
  · subst e
    by_cases hi : i < ρ.length
    · rw [List.getElem?_set_self hi] at hj; cases hj
    · rw [List.getElem?_eq_none (by simpa using hi)] at hj; cases hj
  · rw [List.getElem?_set_ne e] at hj
    exact h.2 j w hj
end
end Pq

namespace Pq
open PySem PySem.Spec PyProof.Rows L2

/-! ### what an answer is worth -/
def IsX (K : PySem.W.Frag) (G : Tab) (F H : Hp) (cls : Value) (dd : Option Addr) (x : X1) : Prop :=
  cls = .ref (G.cls x.c) ∧ (x.fs = [] → dd = none) ∧ (x.fs ≠ [] → ∃ d fs, dd = some d ∧ H d = some (.xd fs) ∧ IsDs K G F (fs.map (·.2)) x.fs)
def Run {α β : Type} (K : PySem.W.Frag) (G : Tab) (W : WX) (σ : L2.St) (F : Hp) (μ : List Addr) (H : Hp) (rel : Hp → List Addr → β → α → Prop) (r : Out α) (Q : β → Hp → Prop) : Prop :=
  match r with
  | .ok a S' => ∀ b H' F' μ', Ex F μ H F' μ' H' → Rl K G F' μ' S' H' → rel F' μ' b a → Q b H'
  | .exc x S' => ∀ cls dd H' F' μ', Ex F μ H F' μ' H' → Rl K G F' μ' S' H' → IsX K G F' H' cls dd x → W cls dd σ H'
  | .bad => False
section
variable {α β γ δ : Type} {K : PySem.W.Frag} {G : Tab} {W : WX} {σ : L2.St} {F F' : Hp} {μ μ' : List Addr} {H H' : Hp}
theorem Run.mono {rel : Hp → List Addr → β → α → Prop} {r : Out α} {Q Q' : β → Hp → Prop} (h : Run K G W σ F μ H rel r Q) (q : ∀ b H', Q b H' → Q' b H') : Run K G W σ F μ H rel r Q' := by
  cases r with
  | ok a S => exact fun b H' F' μ' e R r => q _ _ (h b H' F' μ' e R r)
  | exc x S => exact h
  | bad => exact h
theorem Run.later {rel : Hp → List Addr → β → α → Prop} {r : Out α} {Q : β → Hp → Prop} (e : Ex F μ H F' μ' H') (h : Run K G W σ F μ H rel r Q) : Run K G W σ F' μ' H' rel r Q := by
  cases r with
  | ok a S => exact fun b H2 F2 μ2 e2 R r => h b H2 F2 μ2 (e.trans e2) R r
  | exc x S => exact fun c d H2 F2 μ2 e2 R r => h c d H2 F2 μ2 (e.trans e2) R r
  | bad => exact h
theorem Run.bind {rel : Hp → List Addr → β → α → Prop} {rel' : Hp → List Addr → δ → γ → Prop} {x : Out α} {k : α → Sto → Out γ} {Q : δ → Hp → Prop} {Q' : β → Hp → Prop} (h : Run K G W σ F μ H rel' (x.bind k) Q)
    (step : ∀ a S' b F' μ' H', x = .ok a S' → Ex F μ H F' μ' H' → Rl K G F' μ' S' H' → rel F' μ' b a → Run K G W σ F' μ' H' rel' (k a S') Q → Q' b H') : Run K G W σ F μ H rel x Q' := by
  cases x with
  | ok a S => exact fun b H' F' μ' e R r => step a S b F' μ' H' rfl e R r (Run.later e h)
  | exc x S => exact h
  | bad => exact h
/-- at once -/
theorem Run.now {rel : Hp → List Addr → β → α → Prop} {a : α} {S : Sto} {b : β} {Q : β → Hp → Prop} (h : Run K G W σ F μ H rel (.ok a S) Q) (R : Rl K G F μ S H) (r : rel F μ b a) : Q b H :=
  h b H F μ (Ex.refl _ _ _) R r
end

/-! ### new things, changed things -/
section
variable {K : PySem.W.Frag} {G : Tab} {F H : Hp} {μ : List Addr} {S : Sto} {p : Addr} {ho : HO}
theorem same_new {H : Hp} {p : Addr} {o : HO} (h : H p = none) : Same H (upd H p o) := fun b x e => by
  rw [upd_ne (ne_of_none e h)]
  exact e
theorem Rl.fnone (R : Rl K G F μ S H) (h : H p = none) : F p = none := by
  cases e : F p with
  | none => rfl
  | some o => rw [R.sub _ _ e] at h; cases h
theorem IsO.there {a : Addr} {o : O} (h : IsO K G F H a o) (hd : o ≠ .dead) : ∃ u, H a = some u := by
  cases o with
  | dead => exact absurd rfl hd
  | lst ds => obtain ⟨vs, e, _⟩ := h; exact ⟨_, e⟩
  | dct kvs => obtain ⟨vs, e, _⟩ := h; exact ⟨_, e⟩
theorem IsO.mono {F' H' : Hp} {a : Addr} {o : O} (h : IsO K G F H a o) (e : Same F F') (hk : ∀ u, H a = some u → H' a = some u) : IsO K G F' H' a o := by
  cases o with
  | dead => trivial
  | lst ds => obtain ⟨vs, q, hs⟩ := h; exact ⟨vs, hk _ q, hs.mono e⟩
  | dct kvs => obtain ⟨vs, q, hk', hs⟩ := h; exact ⟨vs, hk _ q, hk', hs.mono e⟩
/-- a new thing, never changed -/
theorem Rl.anew (R : Rl K G F μ S H) (hp : H p = none) : Rl K G (upd F p ho) μ S (upd H p ho) where
  sub := fun b o e => by
    by_cases hb : b = p
    · subst hb; rw [upd_same] at e ⊢; exact e
    · rw [upd_ne hb] at e ⊢; exact R.sub _ _ e
  len := R.len
  obj := fun k a o h hs hd => by
    obtain ⟨h1, h2⟩ := R.obj k a o h hs hd
    obtain ⟨u, hu⟩ := IsO.there h2 hd
    have ne : a ≠ p := ne_of_none hu hp
    exact ⟨by rw [upd_ne ne]; exact h1, IsO.mono h2 (same_new (R.fnone hp)) fun u e => by rw [upd_ne ne]; exact e⟩
  inj := R.inj
  thr := fun a ha => let ⟨o, h⟩ := R.thr a ha; ⟨o, same_new hp a o h⟩
theorem Ex.anew (R : Rl K G F μ S H) (hp : H p = none) : Ex F μ H (upd F p ho) μ (upd H p ho) where
  fr := same_new (R.fnone hp)
  pre := ⟨[], by simp⟩
  keep := fun b o h _ => same_new hp b o h
  new := fun b o h => by
    by_cases hb : b = p
    · subst hb; exact .inr (.inl hp)
    · rw [upd_ne hb] at h; exact .inl h
  newμ := fun b h => .inl h
/-- a new thing that is tracked but belongs to nobody -/
theorem Rl.newH (R : Rl K G F μ S H) (hp : H p = none) : Rl K G F μ S (upd H p ho) where
  sub := fun b o e => same_new hp b o (R.sub _ _ e)
  len := R.len
  obj := fun k a o h hs hd => by
    obtain ⟨h1, h2⟩ := R.obj k a o h hs hd
    exact ⟨h1, IsO.mono h2 (Same.refl _) (same_new hp a)⟩
  inj := R.inj
  thr := fun a ha => let ⟨o, h⟩ := R.thr a ha; ⟨o, same_new hp a o h⟩
theorem Ex.newH (hp : H p = none) : Ex F μ H F μ (upd H p ho) := ⟨Same.refl _, ⟨[], by simp⟩, fun b o h _ => same_new hp b o h, fun _ _ h => .inl h, fun _ h => .inl h⟩
/-- a new thing that may be changed -/
theorem Rl.newR {o : O} (R : Rl K G F μ S H) (hp : H p = none) (h : IsO K G F (upd H p ho) p o) : Rl K G F (μ ++ [p]) (S ++ [o]) (upd H p ho) where
  sub := fun b u e => same_new hp b u (R.sub _ _ e)
  len := by simp [R.len]
  obj := fun k a q hk hs hd => by
    by_cases hl : k < μ.length
    · rw [List.getElem?_append_left hl] at hk
      rw [List.getElem?_append_left (by rw [← R.len]; exact hl)] at hs
      obtain ⟨h1, h2⟩ := R.obj k a q hk hs hd
      exact ⟨h1, IsO.mono h2 (Same.refl _) (same_new hp a)⟩
    · have e : k = μ.length := by
        have := (List.getElem?_eq_some_iff.mp hk).1
        simp at this; omega
      subst e
      rw [List.getElem?_append_right (Nat.le_refl _)] at hk
      rw [List.getElem?_append_right (by rw [R.len]; exact Nat.le_refl _)] at hs
      simp at hk
      simp [R.len] at hs
      subst hk hs
      exact ⟨R.fnone hp, h⟩
  inj := fun j k a q q' hj hk hsj hsk hd hd' => by
    have far : ∀ (i : Nat) (b : Addr) (u : O), i < μ.length → (μ ++ [p])[i]? = some b → (S ++ [o])[i]? = some u → u ≠ .dead → b ≠ p := fun i b u hl h1 h2 hd => by
      rw [List.getElem?_append_left hl] at h1
      rw [List.getElem?_append_left (by rw [← R.len]; exact hl)] at h2
      obtain ⟨v, hv⟩ := IsO.there (R.obj i b u h1 h2 hd).2 hd
      exact ne_of_none hv hp
    have last : ∀ (i : Nat) (b : Addr), ¬ i < μ.length → (μ ++ [p])[i]? = some b → i = μ.length ∧ b = p := fun i b hl h1 => by
      have e : i = μ.length := by
        have := (List.getElem?_eq_some_iff.mp h1).1
        simp at this; omega
      subst e
      rw [List.getElem?_append_right (Nat.le_refl _)] at h1
      simp at h1
      exact ⟨rfl, h1.symm⟩
    by_cases lj : j < μ.length
    · by_cases lk : k < μ.length
      · rw [List.getElem?_append_left lj] at hj
        rw [List.getElem?_append_left lk] at hk
        rw [List.getElem?_append_left (by rw [← R.len]; exact lj)] at hsj
        rw [List.getElem?_append_left (by rw [← R.len]; exact lk)] at hsk
        exact R.inj j k a q q' hj hk hsj hsk hd hd'
      · exact absurd (last k a lk hk).2 (far j a q lj hj hsj hd)
    · by_cases lk : k < μ.length
      · exact absurd (last j a lj hj).2 (far k a q' lk hk hsk hd')
      · rw [(last j a lj hj).1, (last k a lk hk).1]
  thr := fun a ha => by
    rcases List.mem_append.mp ha with ha | ha
    · obtain ⟨o, h⟩ := R.thr a ha
      exact ⟨o, same_new hp a o h⟩
    · have : a = p := by simpa using ha
      subst this
      exact ⟨_, upd_same⟩
theorem Ex.newR (hp : H p = none) : Ex F μ H F (μ ++ [p]) (upd H p ho) := ⟨Same.refl _, ⟨[p], rfl⟩, fun b o h _ => same_new hp b o h, fun _ _ h => .inl h, fun b h => by
  rcases List.mem_append.mp h with h | h
  · exact .inl h
  · have : b = p := by simpa using h
    subst this; exact .inr hp⟩
/-- a thing changed -/
theorem Rl.set {k : Nat} {a : Addr} {o o' : O} (R : Rl K G F μ S H) (hk : μ[k]? = some a) (hs : S[k]? = some o) (hd : o ≠ .dead) (h : IsO K G F (upd H a ho) a o') : Rl K G F μ (S.set k o') (upd H a ho) where
  sub := fun b u e => by
    have ne : b ≠ a := fun z => by
      rw [z, (R.obj k a o hk hs hd).1] at e; cases e
    rw [upd_ne ne]; exact R.sub _ _ e
  len := by simp [R.len]
  obj := fun j b q hj hsj hdq => by
    by_cases e : k = j
    · subst e
      rw [List.getElem?_set_self (List.getElem?_eq_some_iff.mp hs).1] at hsj
      rw [hk] at hj
      cases hj; cases hsj
      exact ⟨(R.obj k a o hk hs hd).1, h⟩
    · rw [List.getElem?_set_ne e] at hsj
      obtain ⟨h1, h2⟩ := R.obj j b q hj hsj hdq
      have ne : b ≠ a := fun z => e (R.inj k j a o q hk (z ▸ hj) hs hsj hd hdq)
      exact ⟨h1, IsO.mono h2 (Same.refl _) fun u z => by rw [upd_ne ne]; exact z⟩
  inj := fun i j b q q' hi hj hsi hsj hd1 hd2 => by
    have back : ∀ (i : Nat) (q : O), (S.set k o')[i]? = some q → q ≠ .dead → ∃ r, S[i]? = some r ∧ r ≠ .dead := fun i q h1 h2 => by
      by_cases e : k = i
      · subst e; exact ⟨o, hs, hd⟩
      · rw [List.getElem?_set_ne e] at h1; exact ⟨q, h1, h2⟩
    obtain ⟨r, h1, h2⟩ := back i q hsi hd1
    obtain ⟨r', h3, h4⟩ := back j q' hsj hd2
    exact R.inj i j b r r' hi hj h1 h3 h2 h4
  thr := fun b hb => by
    by_cases e : b = a
    · subst e; exact ⟨_, upd_same⟩
    · obtain ⟨u, h⟩ := R.thr b hb
      exact ⟨u, by rw [upd_ne e]; exact h⟩
theorem Ex.set {a : Addr} (R : Rl K G F μ S H) (hm : a ∈ μ) : Ex F μ H F μ (upd H a ho) := ⟨Same.refl _, ⟨[], by simp⟩, fun b o h hn => by
  rw [upd_ne (fun z => hn (by rw [z]; exact hm))]; exact h, fun _ _ h => .inl h, fun _ h => .inl h⟩
/-- it stands for good from here on -/
theorem Rl.freeze {k : Nat} {a : Addr} {o : O} (R : Rl K G F μ S H) (hk : μ[k]? = some a) (hs : S[k]? = some o) (hd : o ≠ .dead) (ha : H a = some ho) : Rl K G (upd F a ho) μ (S.set k .dead) H where
  sub := fun b u e => by
    by_cases hb : b = a
    · subst hb; rw [upd_same] at e; rw [ha]; exact e
    · rw [upd_ne hb] at e; exact R.sub _ _ e
  len := by simp [R.len]
  obj := fun j b q hj hsj hdq => by
    by_cases e : k = j
    · subst e
      rw [List.getElem?_set_self (List.getElem?_eq_some_iff.mp hs).1] at hsj
      cases hsj; exact absurd rfl hdq
    · rw [List.getElem?_set_ne e] at hsj
      obtain ⟨h1, h2⟩ := R.obj j b q hj hsj hdq
      have ne : b ≠ a := fun z => e (R.inj k j a o q hk (z ▸ hj) hs hsj hd hdq)
      exact ⟨by rw [upd_ne ne]; exact h1, IsO.mono h2 (same_new (R.obj k a o hk hs hd).1) fun u z => z⟩
  inj := fun i j b q q' hi hj hsi hsj hd1 hd2 => by
    have back : ∀ (i : Nat) (q : O), (S.set k .dead)[i]? = some q → q ≠ .dead → S[i]? = some q := fun i q h1 h2 => by
      by_cases e : k = i
      · subst e
        rw [List.getElem?_set_self (List.getElem?_eq_some_iff.mp hs).1] at h1
        cases h1; exact absurd rfl h2
      · rw [List.getElem?_set_ne e] at h1; exact h1
    exact R.inj i j b q q' hi hj (back i q hsi hd1) (back j q' hsj hd2) hd1 hd2
  thr := R.thr
theorem Ex.freeze {k : Nat} {a : Addr} {o : O} (R : Rl K G F μ S H) (hk : μ[k]? = some a) (hs : S[k]? = some o) (hd : o ≠ .dead) : Ex F μ H (upd F a ho) μ H where
  fr := same_new (R.obj k a o hk hs hd).1
  pre := ⟨[], by simp⟩
  keep := fun _ _ h _ => h
  new := fun b u h => by
    by_cases hb : b = a
    · subst hb; exact .inr (.inr (List.mem_of_getElem? hk))
    · rw [upd_ne hb] at h; exact .inl h
  newμ := fun _ h => .inl h
end

/-! ### a look at a thing -/
def viewO : Option O → D
  | some (.lst ds) => .lst ds
  | some (.dct kvs) => .dct (kvs.map (·.1)) (kvs.map (·.2))
  | _ => .ty "?"
def view (S : Sto) : U → D
  | .d x => x
  | .r k => viewO S[k]?
theorem view_r (S : Sto) (k : Nat) : view S (.r k) = viewO S[k]? := rfl
@[simp] theorem view_d (S : Sto) (x : D) : view S (.d x) = x := rfl
def okV : D → Bool
  | .ty n => n != "?"
  | _ => true
section
variable {K : PySem.W.Frag} {G : Tab} {F H : Hp} {μ : List Addr} {S : Sto} {v : V} {u : U}
theorem view_is (R : Rl K G F μ S H) (h : IsU K G F μ v u) (ok : okV (view S u) = true) : IsD K G H v (view S u) := by
  cases u with
  | d x => exact IsD.mono R.sub h
  | r k =>
    obtain ⟨a, h1, rfl⟩ := h
    rw [view_r] at ok ⊢
    cases e : S[k]? with
    | none => rw [e] at ok; cases ok
    | some o =>
      rw [e] at ok
      cases o with
      | dead => cases ok
      | lst ds =>
        obtain ⟨_, vs, q, hs⟩ := R.obj k a _ h1 e (by intro z; cases z)
        exact .lst q (hs.mono R.sub)
      | dct kvs =>
        obtain ⟨_, kws, q, hk, hs⟩ := R.obj k a _ h1 e (by intro z; cases z)
        exact .dct (.inl q) hk (hs.mono R.sub)
theorem view_lst {ds : List D} (R : Rl K G F μ S H) (h : IsU K G F μ v u) (e : view S u = .lst ds) : ∃ a vs, v = .ref a ∧ H a = some (.lst vs) ∧ IsDs K G F vs ds := by
  cases u with
  | d x =>
    have e' : x = .lst ds := e
    subst e'
    cases h with
    | lst h hs => exact ⟨_, _, rfl, R.sub _ _ h, hs⟩
  | r k =>
    obtain ⟨a, h1, rfl⟩ := h
    rw [view_r] at e
    cases es : S[k]? with
    | none => rw [es] at e; cases e
    | some o =>
      rw [es] at e
      cases o with
      | dead => cases e
      | lst ds' =>
        cases e
        obtain ⟨_, vs, q, hs⟩ := R.obj k a _ h1 es (by intro z; cases z)
        exact ⟨a, vs, rfl, q, hs⟩
      | dct kvs => cases e
theorem view_nr {x : D} (h : IsU K G F μ v u) (e : view S u = x) (hx : (∀ ds, x ≠ .lst ds) ∧ (∀ ks ds, x ≠ .dct ks ds) ∧ x ≠ .ty "?") : IsD K G F v x := by
  cases u with
  | d y =>
    have e' : y = x := e
    subst e'
    exact h
  | r k =>
    rw [view_r] at e
    cases es : S[k]? with
    | none => rw [es] at e; exact absurd e.symm hx.2.2
    | some o =>
      rw [es] at e
      cases o with
      | dead => exact absurd e.symm hx.2.2
      | lst ds' => exact absurd e.symm (hx.1 _)
      | dct kvs => exact absurd e.symm (hx.2.1 _ _)
theorem view_int {i : Int} (h : IsU K G F μ v u) (e : view S u = .int i) : v = .int i := by
  cases view_nr h e ⟨fun _ z => (by cases z), fun _ _ z => (by cases z), fun z => (by cases z)⟩; rfl
theorem view_bl {b : Bool} (h : IsU K G F μ v u) (e : view S u = .bl b) : v = .bl b := by
  cases view_nr h e ⟨fun _ z => (by cases z), fun _ _ z => (by cases z), fun z => (by cases z)⟩; rfl
theorem view_str {b : Str} (h : IsU K G F μ v u) (e : view S u = .str b) : v = .str b := by
  cases view_nr h e ⟨fun _ z => (by cases z), fun _ _ z => (by cases z), fun z => (by cases z)⟩; rfl
theorem view_non (h : IsU K G F μ v u) (e : view S u = .non) : v = .non := by
  cases view_nr h e ⟨fun _ z => (by cases z), fun _ _ z => (by cases z), fun z => (by cases z)⟩; rfl
theorem view_tup {ds : List D} (h : IsU K G F μ v u) (e : view S u = .tup ds) : ∃ a vs, v = .ref a ∧ SqT K F a vs ∧ IsDs K G F vs ds := by
  cases view_nr h e ⟨fun _ z => (by cases z), fun _ _ z => (by cases z), fun z => (by cases z)⟩ with
  | tup q qs => exact ⟨_, _, rfl, q, qs⟩
theorem view_scr {ns : List Int} (h : IsU K G F μ v u) (e : view S u = .scr ns) : ∃ a, v = .ref a ∧ SqL K F a (ns.map V.int) := by
  cases view_nr h e ⟨fun _ z => (by cases z), fun _ _ z => (by cases z), fun z => (by cases z)⟩ with
  | scr q => exact ⟨_, rfl, q⟩
end
end Pq

namespace Pq
open PySem PySem.Spec PyProof.Rows L2

abbrev SemE := Ev → Sto → Out U
abbrev SemT := Ev → Sto → Out Bool
abbrev SemA := Ev → Sto → Out (List U)
inductive IsUs (K : PySem.W.Frag) (G : Tab) (F : Hp) (μ : List Addr) : List V → List U → Prop
  | nil : IsUs K G F μ [] []
  | cons {v : V} {vs : List V} {u : U} {us : List U} : IsU K G F μ v u → IsUs K G F μ vs us → IsUs K G F μ (v :: vs) (u :: us)
theorem IsUs.mono {K : PySem.W.Frag} {G : Tab} {F F' H H' : Hp} {μ μ' : List Addr} (e : Ex F μ H F' μ' H') : ∀ {vs : List V} {us : List U}, IsUs K G F μ vs us → IsUs K G F' μ' vs us
  | _, _, .nil => .nil
  | _, _, .cons h t => .cons (h.mono e) (IsUs.mono e t)
def relB : Hp → List Addr → Bool → Bool → Prop := fun _ _ b a => b = a

structure EE (X : Cx) (G : Tab) (W : WX) (e : Expr) (f : SemE) : Prop where
  ex : ∃ t : TE, PE X e t ∧ ∀ σ H ρ S F μ Q, Rl X.K G F μ S H → EnvIs X.K G F μ σ ρ → Run X.K G W σ F μ H (IsU X.K G) (f ρ S) Q → t σ H Q
structure ET (X : Cx) (G : Tab) (W : WX) (e : Expr) (f : SemT) : Prop where
  ex : ∃ t : TT, PT X e t ∧ ∀ σ H ρ S F μ Q, Rl X.K G F μ S H → EnvIs X.K G F μ σ ρ → Run X.K G W σ F μ H relB (f ρ S) Q → t σ H Q
structure EA (X : Cx) (G : Tab) (W : WX) (es : List Expr) (f : SemA) : Prop where
  ex : ∃ t : TA, PA X es t ∧ ∀ σ H ρ S F μ Q, Rl X.K G F μ S H → EnvIs X.K G F μ σ ρ → Run X.K G W σ F μ H (IsUs X.K G) (f ρ S) Q → t σ H Q

/-! ### what a head says -/
def starless : Expr → Bool
  | .Starred .. => false
  | _ => true
def compless : Expr → Bool
  | .ListComp .. => false | .SetComp .. => false | .DictComp .. => false
  | _ => true
def setless : Expr → Bool
  | .Set .. => false
  | _ => true
def sliceless : Expr → Bool
  | .Slice .. => false
  | _ => true
def plainT : Expr → Bool
  | .UnaryOp .Not _ _ => false | .BoolOp .. => false | .IfExp .. => false | .Compare .. => false
  | _ => true
theorem starEach_c {e : Expr} (h : starless e = true) (es : List Expr) (env : PySem.Env) : starEach (e :: es) env = (false, eval e env) :: starEach es env := by
  cases e <;> first | rfl | cases h
theorem assignEach_c {e : Expr} (h : starless e = true) (es : List Expr) (env : PySem.Env) : assignEach (e :: es) env = (false, assign e env) :: assignEach es env := by
  cases e <;> first | rfl | cases h
theorem swaps_c {e : Expr} (h : compless e = true) (t : Option Expr) (l : Nat) (env : PySem.Env) : swapsWith e t l env = pure false := by
  cases e <;> first | rfl | cases h
theorem folded_c {e : Expr} (h : setless e = true) (env : PySem.Env) (x : Value) : foldedSetIterable e env x = pure x := by
  cases e <;> first | rfl | cases h
theorem behind_c {e : Expr} (h : setless e = true) (op : CmpOp) : behindInMarks op e = false := by
  cases e <;> first | rfl | cases h
theorem sub_c {e : Expr} (h : sliceless e = true) : PlainIx e := fun o i => by
  cases e <;> first | rfl | cases h
theorem true_c {e : Expr} (h : plainT e = true) (env : PySem.Env) (whole : Sem Value) : isTrue e env whole = (do let v ← whole; standAt e.pos; holding [v] (truthy v)) := by
  cases e with
  | UnaryOp op a p => cases op <;> first | rfl | cases h
  | BoolOp => cases h
  | IfExp => cases h
  | Compare => cases h
  | _ => rfl

section
variable {X : Cx} {G : Tab} {W : WX} {a b c : Expr} {fa fb fc : SemE} {pos : Pos}

/-! ### names, constants -/
def nmS (i : Nat) : SemE := fun ρ S => match ρ[i]? with
  | some (some u) => .ok u S
  | _ => .bad
def kS (d : D) : SemE := fun _ S => .ok (.d d) S
theorem ee_nm {i : Nat} {x : Str} (hN : X.N[i]? = some x) (hv : Vis X.env.scope x) (hd : (x == ("__debug__" : Str)) = false) (hc : (x == ("__classdict__" : Str)) = false) : EE X G W (.Name x pos) (nmS i) := by
  refine ⟨_, pe_var (i := i) hN hv hd hc, fun σ H ρ S F μ Q R E h => ?_⟩
  unfold nmS at h
  cases e : ρ[i]? with
  | none => rw [e] at h; exact h.elim
  | some o =>
    cases o with
    | none => rw [e] at h; exact h.elim
    | some u =>
      rw [e] at h
      obtain ⟨v, h1, h2⟩ := E.2 i u e
      exact ⟨v, h1, h.now R h2⟩
theorem ee_k {e : Expr} {v : V} {d : D} (h : PE X e (tC v)) (hv : ∀ F, IsD X.K G F v d) : EE X G W e (kS d) :=
  ⟨_, h, fun σ H ρ S F μ Q R E h => Run.now (b := v) h R (hv F)⟩

/-! ### operators -/
theorem ee_op {op : Operator} {r : R2} {g : Sto → U → U → Out U} (ho : OpR X (binaryOp op) r)
    (hg : ∀ σ F μ S H v w x y Q, Rl X.K G F μ S H → IsU X.K G F μ v x → IsU X.K G F μ w y → Run X.K G W σ F μ H (IsU X.K G) (g S x y) Q → r v w H Q)
    (ha : EE X G W a fa) (hb : EE X G W b fb) : EE X G W (.BinOp a op b pos) (fun ρ S => (fa ρ S).bind fun x S1 => (fb ρ S1).bind fun y S2 => g S2 x y) := by
  obtain ⟨ta, pa, qa⟩ := ha.ex
  obtain ⟨tb, pb, qb⟩ := hb.ex
  refine ⟨_, pe_op ho pa pb, fun σ H ρ S F μ Q R E h => ?_⟩
  refine qa σ H ρ S F μ _ R E (h.bind fun x S1 v F1 μ1 H1 _ e1 R1 r1 h1 => ?_)
  refine qb σ H1 ρ S1 F1 μ1 _ R1 (E.mono e1) (h1.bind fun y S2 w F2 μ2 H2 _ e2 R2 r2 h2 => ?_)
  exact hg σ F2 μ2 S2 H2 v w x y Q R2 (r1.mono e2) r2 h2

theorem lim_eq : (16777216 : Nat) = sizeLine := sizeLine_eq.symm

def addS (S : Sto) (a b : U) : Out U := match view S a, view S b with
  | .int i, .int j => .ok (.d (.int (i + j))) S
  | .lst xs, .lst ys => if xs.length + ys.length ≤ 16777216 then .ok (.d (.lst (xs ++ ys))) S else .bad
  | .tup xs, .tup ys => if xs.length + ys.length ≤ 16777216 then .ok (.d (.tup (xs ++ ys))) S else .bad
  | .str x, .str y => if x.length + y.length ≤ 16777216 then .ok (.d (.str (x ++ y))) S else .bad
  | _, _ => .bad
theorem Vals0 {K : PySem.W.Frag} {G : Tab} {F : Hp} {vs : List V} {ds : List D} (h : IsDs K G F vs ds) : vs = [] ↔ ds = [] := by
  cases h <;> simp
theorem ee_add (ha : EE X G W a fa) (hb : EE X G W b fb) : EE X G W (.BinOp a .Add b pos) (fun ρ S => (fa ρ S).bind fun x S1 => (fb ρ S1).bind fun y S2 => addS S2 x y) := by
  refine ee_op (op_add.or (op_cat.or (op_catA.or op_add_str))) (fun σ F μ S H v w x y Q R rx ry h => ?_) ha hb
  unfold addS at h
  split at h
  · rename_i i j e1 e2
    obtain rfl := view_int rx e1
    obtain rfl := view_int ry e2
    exact .inl ⟨i, j, rfl, rfl, h.now R (.int _)⟩
  · rename_i xs ys e1 e2
    split at h
    · rename_i hl
      obtain ⟨p, vs, rfl, hp, hs⟩ := view_lst R rx e1
      obtain ⟨q, ws, rfl, hq, ht⟩ := view_lst R ry e2
      refine .inr (.inl ⟨p, q, vs, ws, rfl, rfl, hp, hq, by rw [hs.length, ht.length, ← lim_eq]; exact hl, fun n hn => ?_⟩)
      exact h _ _ _ _ (Ex.anew R hn) (R.anew hn) (IsD.lst upd_same ((hs.append ht).mono (same_new (R.fnone hn))))
    · exact h.elim
  · rename_i xs ys e1 e2
    split at h
    · rename_i hl
      obtain ⟨p, vs, rfl, hp, hs⟩ := view_tup rx e1
      obtain ⟨q, ws, rfl, hq, ht⟩ := view_tup ry e2
      refine .inr (.inr (.inl ⟨p, q, vs, ws, rfl, rfl, R.sub.seqT hp, R.sub.seqT hq, by rw [hs.length, ht.length, ← lim_eq]; exact hl, fun hv => ?_, fun _ hw => ?_, fun _ _ n hn => ?_⟩))
      · rw [(Vals0 hs).mp hv] at h
        exact h.now R (IsD.tup hq ht)
      · rw [(Vals0 ht).mp hw, List.append_nil] at h
        exact h.now R (IsD.tup hp hs)
      · exact h _ _ _ _ (Ex.anew R hn) (R.anew hn) (IsD.tup (SqT.of upd_same) ((hs.append ht).mono (same_new (R.fnone hn))))
    · exact h.elim
  · rename_i i j e1 e2
    split at h
    · rename_i hl
      obtain rfl := view_str rx e1
      obtain rfl := view_str ry e2
      exact .inr (.inr (.inr ⟨i, j, rfl, rfl, by rw [← lim_eq]; exact hl, h.now R (.str _)⟩))
    · exact h.elim
  · exact h.elim
def subS (S : Sto) (a b : U) : Out U := match view S a, view S b with
  | .int i, .int j => .ok (.d (.int (i - j))) S
  | _, _ => .bad
theorem ee_sub (ha : EE X G W a fa) (hb : EE X G W b fb) : EE X G W (.BinOp a .Sub b pos) (fun ρ S => (fa ρ S).bind fun x S1 => (fb ρ S1).bind fun y S2 => subS S2 x y) := by
  refine ee_op op_sub (fun σ F μ S H v w x y Q R rx ry h => ?_) ha hb
  unfold subS at h
  split at h
  · rename_i i j e1 e2
    obtain rfl := view_int rx e1
    obtain rfl := view_int ry e2
    exact ⟨i, j, rfl, rfl, h.now R (.int _)⟩
  · exact h.elim
theorem IsDs.rep {K : PySem.W.Frag} {G : Tab} {F : Hp} {vs : List V} {ds : List D} (h : IsDs K G F vs ds) : ∀ k : Nat, IsDs K G F (List.replicate k vs).flatten (List.replicate k ds).flatten
  | 0 => .nil
  | k + 1 => by
    rw [List.replicate_succ, List.replicate_succ, List.flatten_cons, List.flatten_cons]
    exact h.append (IsDs.rep h k)
def mulS (S : Sto) (a b : U) : Out U := match view S a, view S b with
  | .int i, .int j => if (-18446744073709551616 < i ∧ i < 18446744073709551616) ∨ (-18446744073709551616 < j ∧ j < 18446744073709551616) then .ok (.d (.int (i * j))) S else .bad
  | .lst xs, .int k => if 0 ≤ k ∧ k < 1000000 ∧ xs.length * k.toNat ≤ 16777216 then .ok (.d (.lst (List.replicate k.toNat xs).flatten)) S else .bad
  | _, _ => .bad
theorem ee_mul (ha : EE X G W a fa) (hb : EE X G W b fb) : EE X G W (.BinOp a .Mult b pos) (fun ρ S => (fa ρ S).bind fun x S1 => (fb ρ S1).bind fun y S2 => mulS S2 x y) := by
  refine ee_op (op_mul.or op_rep) (fun σ F μ S H v w x y Q R rx ry h => ?_) ha hb
  unfold mulS at h
  split at h
  · rename_i i j e1 e2
    split at h
    · rename_i hl
      obtain rfl := view_int rx e1
      obtain rfl := view_int ry e2
      exact .inl ⟨i, j, rfl, rfl, by unfold CMul; simpa using hl, h.now R (.int _)⟩
    · exact h.elim
  · rename_i xs k e1 e2
    split at h
    · rename_i hl
      obtain ⟨p, vs, rfl, hp, hs⟩ := view_lst R rx e1
      obtain rfl := view_int ry e2
      refine .inr ⟨p, k, vs, rfl, rfl, hp, by omega, by omega, by rw [hs.length, ← lim_eq]; exact hl.2.2, fun n hn => ?_⟩
      exact h _ _ _ _ (Ex.anew R hn) (R.anew hn) (IsD.lst upd_same ((hs.rep _).mono (same_new (R.fnone hn))))
    · exact h.elim
  · exact h.elim
def fdivS (S : Sto) (a b : U) : Out U := match view S a, view S b with
  | .int i, .int j => if 0 < j ∧ j < 18446744073709551616 then .ok (.d (.int (i / j))) S else .bad
  | _, _ => .bad
theorem ee_fdiv (ha : EE X G W a fa) (hb : EE X G W b fb) : EE X G W (.BinOp a .FloorDiv b pos) (fun ρ S => (fa ρ S).bind fun x S1 => (fb ρ S1).bind fun y S2 => fdivS S2 x y) := by
  refine ee_op op_fdivW (fun σ F μ S H v w x y Q R rx ry h => ?_) ha hb
  unfold fdivS at h
  split at h
  · rename_i i j e1 e2
    split at h
    · rename_i hl
      obtain rfl := view_int rx e1
      obtain rfl := view_int ry e2
      exact ⟨i, j, rfl, rfl, wide_div (b := 64) hl.1 (by omega) (by decide) (by decide), h.now R (.int _)⟩
    · exact h.elim
  · exact h.elim
def modS (S : Sto) (a b : U) : Out U := match view S a, view S b with
  | .int i, .int j => if 0 < j then .ok (.d (.int (i % j))) S else .bad
  | _, _ => .bad
theorem ee_mod (ha : EE X G W a fa) (hb : EE X G W b fb) : EE X G W (.BinOp a .Mod b pos) (fun ρ S => (fa ρ S).bind fun x S1 => (fb ρ S1).bind fun y S2 => modS S2 x y) := by
  refine ee_op op_mod (fun σ F μ S H v w x y Q R rx ry h => ?_) ha hb
  unfold modS at h
  split at h
  · rename_i i j e1 e2
    split at h
    · rename_i hl
      obtain rfl := view_int rx e1
      obtain rfl := view_int ry e2
      exact ⟨i, j, rfl, rfl, hl, h.now R (.int _)⟩
    · exact h.elim
  · exact h.elim
def powS (S : Sto) (a b : U) : Out U := match view S a, view S b with
  | .int i, .int j => if 0 ≤ j ∧ j ≤ 1000 ∧ i.natAbs < 18446744073709551616 then .ok (.d (.int (i ^ j.toNat))) S else .bad
  | _, _ => .bad
theorem ee_pow (ha : EE X G W a fa) (hb : EE X G W b fb) : EE X G W (.BinOp a .Pow b pos) (fun ρ S => (fa ρ S).bind fun x S1 => (fb ρ S1).bind fun y S2 => powS S2 x y) := by
  refine ee_op op_pow (fun σ F μ S H v w x y Q R rx ry h => ?_) ha hb
  unfold powS at h
  split at h
  · rename_i i j e1 e2
    split at h
    · rename_i hl
      obtain rfl := view_int rx e1
      obtain rfl := view_int ry e2
      exact ⟨i, j, rfl, rfl, ⟨hl.1, by omega, by omega⟩, h.now R (.int _)⟩
    · exact h.elim
  · exact h.elim
def shlS (S : Sto) (a b : U) : Out U := match view S a, view S b with
  | .int i, .int j => if 0 ≤ j ∧ j ≤ 1000 ∧ i.natAbs < 18446744073709551616 then .ok (.d (.int (i * 2 ^ j.toNat))) S else .bad
  | _, _ => .bad
theorem ee_shl (ha : EE X G W a fa) (hb : EE X G W b fb) : EE X G W (.BinOp a .LShift b pos) (fun ρ S => (fa ρ S).bind fun x S1 => (fb ρ S1).bind fun y S2 => shlS S2 x y) := by
  refine ee_op op_shl (fun σ F μ S H v w x y Q R rx ry h => ?_) ha hb
  unfold shlS at h
  split at h
  · rename_i i j e1 e2
    split at h
    · rename_i hl
      obtain rfl := view_int rx e1
      obtain rfl := view_int ry e2
      exact ⟨i, j, rfl, rfl, ⟨hl.1, by omega, by omega⟩, h.now R (.int _)⟩
    · exact h.elim
  · exact h.elim
def bandS (S : Sto) (a b : U) : Out U := match view S a, view S b with
  | .int i, .int j => .ok (.d (.int (Builtin.bitAnd i j))) S
  | _, _ => .bad
theorem ee_band (ha : EE X G W a fa) (hb : EE X G W b fb) : EE X G W (.BinOp a .BitAnd b pos) (fun ρ S => (fa ρ S).bind fun x S1 => (fb ρ S1).bind fun y S2 => bandS S2 x y) := by
  refine ee_op op_and (fun σ F μ S H v w x y Q R rx ry h => ?_) ha hb
  unfold bandS at h
  split at h
  · rename_i i j e1 e2
    obtain rfl := view_int rx e1
    obtain rfl := view_int ry e2
    exact ⟨i, j, rfl, rfl, h.now R (.int _)⟩
  · exact h.elim
def binS : Operator → Sto → U → U → Out U
  | .Add => addS | .Sub => subS | .Mult => mulS | .FloorDiv => fdivS | .Mod => modS | .Pow => powS | .LShift => shlS | .BitAnd => bandS
  | _ => fun _ _ _ => .bad
theorem ee_bad {e : Expr} {f : SemE} (h : PE X e (fun _ _ _ => False)) (hf : ∀ ρ S, f ρ S = .bad) : EE X G W e f := ⟨_, h, fun σ H ρ S F μ Q R E q => by rw [hf] at q; exact q⟩
theorem ee_bin (op : Operator) (ok : (match op with | .Add => true | .Sub => true | .Mult => true | .FloorDiv => true | .Mod => true | .Pow => true | .LShift => true | .BitAnd => true | _ => false) = true) (ha : EE X G W a fa) (hb : EE X G W b fb) :
    EE X G W (.BinOp a op b pos) (fun ρ S => (fa ρ S).bind fun x S1 => (fb ρ S1).bind fun y S2 => binS op S2 x y) := by
  cases op <;> first | cases ok; done | exact ee_add ha hb | exact ee_sub ha hb | exact ee_mul ha hb | exact ee_fdiv ha hb | exact ee_mod ha hb | exact ee_pow ha hb | exact ee_shl ha hb | exact ee_band ha hb
/-- - e -/
def negS (S : Sto) (a : U) : Out U := match view S a with
  | .int i => .ok (.d (.int (-i))) S
  | _ => .bad
theorem ee_neg (ha : EE X G W a fa) : EE X G W (.UnaryOp .USub a pos) (fun ρ S => (fa ρ S).bind fun x S1 => negS S1 x) := by
  obtain ⟨ta, pa, qa⟩ := ha.ex
  refine ⟨_, pe_un un_neg pa, fun σ H ρ S F μ Q R E h => ?_⟩
  refine qa σ H ρ S F μ _ R E (h.bind fun x S1 v F1 μ1 H1 _ e1 R1 r1 h1 => ?_)
  unfold negS at h1
  split at h1
  · rename_i i e
    obtain rfl := view_int r1 e
    exact ⟨i, rfl, h1.now R1 (.int _)⟩
  · exact h1.elim
end
end Pq

namespace Pq
open PySem PySem.Spec PyProof.Rows L2

/-- a truth or nothing -/
def outB (o : Option Bool) (S : Sto) : Out Bool := match o with
  | some k => .ok k S
  | none => .bad
def bV (k : Bool) (S : Sto) : Out U := .ok (.d (.bl k)) S
@[simp] theorem outB_some (k : Bool) (S : Sto) : outB (some k) S = .ok k S := rfl
@[simp] theorem outB_none (S : Sto) : outB none S = .bad := rfl
section
variable {X : Cx} {G : Tab} {W : WX} {a b c e : Expr} {es : List Expr} {fa fb fc : SemE} {pos : Pos}

/-! ### comparisons -/
def cmp2 (g : Sto → U → U → Option Bool) (fa fb : SemE) : SemT := fun ρ S => (fa ρ S).bind fun x S1 => (fb ρ S1).bind fun y S2 => outB (g S2 x y) S2
/-- a rule r of a comparison answers as g says -/
def CmpOk (X : Cx) (G : Tab) (r : R2) (g : Sto → U → U → Option Bool) : Prop :=
  ∀ F μ S H v w x y k (Q : VK), Rl X.K G F μ S H → IsU X.K G F μ v x → IsU X.K G F μ w y → g S x y = some k → Q (.bl k) H → r v w H Q
theorem ee_cmp {op : CmpOp} {r : R2} {g : Sto → U → U → Option Bool} (ho : OpR X (compareOp op) r) (hg : CmpOk X G r g) (ha : EE X G W a fa) (hb : EE X G W b fb) (hs : setless b = true) :
    EE X G W (.Compare a [op] [b] pos) (fun ρ S => (cmp2 g fa fb ρ S).bind bV) := by
  obtain ⟨ta, pa, qa⟩ := ha.ex
  obtain ⟨tb, pb, qb⟩ := hb.ex
  refine ⟨_, pe_cmpR ho pa pb (behind_c hs op), fun σ H ρ S F μ Q R E h => ?_⟩
  have h : Run X.K G W σ F μ H (IsU X.K G) ((fa ρ S).bind fun x S1 => (fb ρ S1).bind fun y S2 => (outB (g S2 x y) S2).bind bV) Q := by
    unfold cmp2 at h
    cases e1 : fa ρ S with
    | ok x S1 =>
      rw [e1] at h
      simp only [Out.bind_ok] at h ⊢
      cases e2 : fb ρ S1 <;> rw [e2] at h <;> exact h
    | exc x S1 => rw [e1] at h; exact h
    | bad => rw [e1] at h; exact h
  refine qa σ H ρ S F μ _ R E (h.bind fun x S1 v F1 μ1 H1 _ e1 R1 r1 h1 => ?_)
  refine qb σ H1 ρ S1 F1 μ1 _ R1 (E.mono e1) (h1.bind fun y S2 w F2 μ2 H2 _ e2 R2 r2 h2 => ?_)
  cases q : g S2 x y with
  | none => rw [q] at h2; exact h2.elim
  | some k =>
    rw [q] at h2
    exact hg F2 μ2 S2 H2 v w x y k Q R2 (r1.mono e2) r2 q (h2.now R2 (IsD.bl k))
theorem et_cmp {op : CmpOp} {r : R2} {g : Sto → U → U → Option Bool} (ho : OpR X (compareOp op) r) (hg : CmpOk X G r g) (ha : EE X G W a fa) (hb : EE X G W b fb) (hs : setless b = true) :
    ET X G W (.Compare a [op] [b] pos) (cmp2 g fa fb) := by
  obtain ⟨ta, pa, qa⟩ := ha.ex
  obtain ⟨tb, pb, qb⟩ := hb.ex
  refine ⟨_, pt_cmpR ho pa pb (behind_c hs op), fun σ H ρ S F μ Q R E h => ?_⟩
  refine qa σ H ρ S F μ _ R E (h.bind fun x S1 v F1 μ1 H1 _ e1 R1 r1 h1 => ?_)
  refine qb σ H1 ρ S1 F1 μ1 _ R1 (E.mono e1) (h1.bind fun y S2 w F2 μ2 H2 _ e2 R2 r2 h2 => ?_)
  cases q : g S2 x y with
  | none => rw [q] at h2; exact h2.elim
  | some k =>
    rw [q] at h2
    exact hg F2 μ2 S2 H2 v w x y k _ R2 (r1.mono e2) r2 q ⟨k, rfl, h2.now R2 rfl⟩

def eqS (S : Sto) (a b : U) : Option Bool := match view S a, view S b with
  | .int i, .int j => some (decide (i = j))
  | x, y => if can x = true ∧ can y = true ∧ (dep x ≤ 60 ∨ dep y ≤ 60) then some (eqd x y) else none
theorem can_ok {x : D} (h : can x = true) : okV x = true := by cases x <;> first | rfl | (simp [can] at h)
/-- == of data, the depth of one of them told -/
def rEqM (K : PySem.W.Frag) (f : Bool → Bool) : R2 := fun x y H Q => ∃ d e, Dp K H x d ∧ Dp K H y e ∧ d.canLay0 = true ∧ e.canLay0 = true ∧ min d.depth e.depth ≤ 60 ∧ Q (.bl (f (PyData.eqv d e))) H
theorem op_eqM (hu : X.A.units + 64 < cLine) : OpR X (compareOp .Eq) (rEqM X.K id) := by
  intro pins s σ H x y v u Q I rx ry h
  obtain ⟨d, e, hd, he, sd, se, hm, q⟩ := h
  obtain ⟨as, r1⟩ := Dp.reads I d x v hd rx
  obtain ⟨bs, r2⟩ := Dp.reads I e y u he ry
  exact SeqAt.compareEq_reads r1 r2 sd se (by omega) ⟨.bl _, H, I, rfl, q⟩
theorem op_neM (hu : X.A.units + 64 < cLine) : OpR X (compareOp .NotEq) (rEqM X.K (!·)) := by
  intro pins s σ H x y v u Q I rx ry h
  obtain ⟨d, e, hd, he, sd, se, hm, q⟩ := h
  obtain ⟨as, r1⟩ := Dp.reads I d x v hd rx
  obtain ⟨bs, r2⟩ := Dp.reads I e y u he ry
  exact SeqAt.compareNe_reads r1 r2 sd se (by omega) ⟨.bl _, H, I, rfl, q⟩
theorem eq_ok {f : Bool → Bool} : CmpOk X G (rEqM X.K f) (fun S x y => (eqS S x y).map f) := by
  intro F μ S H v w x y k Q R rx ry hk q
  have key : can (view S x) = true → can (view S y) = true → (dep (view S x) ≤ 60 ∨ dep (view S y) ≤ 60) → f (eqd (view S x) (view S y)) = k → rEqM X.K f v w H Q := fun c1 c2 hd hq => by
    refine ⟨py (view S x), py (view S y), dp_of (view_is R rx (can_ok c1)) c1, dp_of (view_is R ry (can_ok c2)) c2, canLay_of _ c1, canLay_of _ c2, ?_, ?_⟩
    · rw [dep_of, dep_of]; omega
    · show Q (.bl (f (eqd (view S x) (view S y)))) H
      rw [hq]; exact q
  have hk : (eqS S x y).map f = some k := hk
  unfold eqS at hk
  split at hk
  · rename_i i j e1 e2
    refine key (by rw [e1]; rfl) (by rw [e2]; rfl) (by rw [e1]; exact .inl (Nat.zero_le _)) ?_
    rw [e1, e2]
    have : eqd (.int i) (.int j) = decide (i = j) := by
      simp only [eqd, py, PyData.eqv]
      exact Bool.beq_eq_decide_eq ..
    rw [this]
    simpa using hk
  · split at hk
    · rename_i hc
      exact key hc.1 hc.2.1 hc.2.2 (by simpa using hk)
    · cases hk
def ltS (p : Int → Int → Bool) (S : Sto) (a b : U) : Option Bool := match view S a, view S b with
  | .int i, .int j => some (p i j)
  | _, _ => none
theorem lt_ok {p : Int → Int → Bool} : CmpOk X G (rI0 fun i j => .bl (p i j)) (ltS p) := by
  intro F μ S H v w x y k Q R rx ry hk q
  unfold ltS at hk
  split at hk
  · rename_i i j e1 e2
    obtain rfl := view_int rx e1
    obtain rfl := view_int ry e2
    cases hk
    exact ⟨i, j, rfl, rfl, q⟩
  · cases hk
def isNS (S : Sto) (a b : U) : Option Bool := match view S b with
  | .non => match view S a with
    | .non => some true
    | .ty _ => none
    | _ => some false
  | _ => none
def isNon : D → Bool
  | .non => true
  | _ => false
theorem IsD.nn {K : PySem.W.Frag} {F : Hp} {v : V} {d : D} (h : IsD K G F v d) : decide (v = .non) = isNon d := by
  cases h <;> first | rfl | simp [isNon]
theorem isN_ok {f : Bool → Bool} : CmpOk X G (fun x y H Q => y = .non ∧ Q (.bl (f (decide (x = .non)))) H) (fun S x y => (isNS S x y).map f) := by
  intro F μ S H v w x y k Q R rx ry hk q
  have hk : (isNS S x y).map f = some k := hk
  unfold isNS at hk
  split at hk
  · rename_i e2
    refine ⟨view_non ry e2, ?_⟩
    cases e1 : view S x with
    | ty n => rw [e1] at hk; cases hk
    | _ =>
      have z := (view_is R rx (by rw [e1]; rfl)).nn
      rw [e1] at z hk
      rw [z]
      cases hk
      exact q
  · cases hk
theorem op_isN' : OpR X (compareOp .Is) (fun x y H Q => y = .non ∧ Q (.bl (id (decide (x = .non)))) H) := op_isN
theorem op_notN' : OpR X (compareOp .IsNot) (fun x y H Q => y = .non ∧ Q (.bl (!(decide (x = .non)))) H) := op_notN
/-- the comparisons of two -/
def cmpS : CmpOp → Sto → U → U → Option Bool
  | .Eq => fun S x y => (eqS S x y).map id
  | .NotEq => fun S x y => (eqS S x y).map (!·)
  | .Lt => ltS fun i j => decide (i < j)
  | .LtE => ltS fun i j => decide (i ≤ j)
  | .Gt => ltS fun i j => decide (j < i)
  | .GtE => ltS fun i j => decide (j ≤ i)
  | .Is => fun S x y => (isNS S x y).map id
  | .IsNot => fun S x y => (isNS S x y).map (!·)
  | _ => fun _ _ _ => none
def okC : CmpOp → Bool
  | .In => false | .NotIn => false
  | _ => true
theorem cmp_rule (hu : X.A.units + 64 < cLine) (op : CmpOp) (ok : okC op = true) : ∃ r, OpR X (compareOp op) r ∧ CmpOk X G r (cmpS op) := by
  cases op with
  | Eq => exact ⟨_, op_eqM hu, eq_ok⟩
  | NotEq => exact ⟨_, op_neM hu, eq_ok⟩
  | Lt => exact ⟨_, op_lt, lt_ok⟩
  | LtE => exact ⟨_, op_le, lt_ok⟩
  | Gt => exact ⟨_, op_gt, lt_ok⟩
  | GtE => exact ⟨_, op_ge, lt_ok⟩
  | Is => exact ⟨_, op_isN', isN_ok⟩
  | IsNot => exact ⟨_, op_notN', isN_ok⟩
  | In => cases ok
  | NotIn => cases ok
/-- a op b op' c -/
def cmp3 (g g' : Sto → U → U → Option Bool) (fa fb fc : SemE) : SemT := fun ρ S => (fa ρ S).bind fun x S1 => (fb ρ S1).bind fun y S2 => (outB (g S2 x y) S2).bind fun k S3 =>
  if k = true then (fc ρ S3).bind fun z S4 => outB (g' S4 y z) S4 else .ok false S3
theorem chainM {op op' : CmpOp} {b c : Expr} (h : setless c = true) : lastMarks [op, op'] [b, c] = false := behind_c h op'
theorem run_cmp3 {g g' : Sto → U → U → Option Bool} {r r' : R2} (hg : CmpOk X G r g) (hg' : CmpOk X G r' g') {σ : L2.St} {H : Hp} {ρ : Ev} {S : Sto} {F : Hp} {μ : List Addr} {Q : VK} {ta tb tc : TE}
    (qa : ∀ σ H ρ S F μ Q, Rl X.K G F μ S H → EnvIs X.K G F μ σ ρ → Run X.K G W σ F μ H (IsU X.K G) (fa ρ S) Q → ta σ H Q)
    (qb : ∀ σ H ρ S F μ Q, Rl X.K G F μ S H → EnvIs X.K G F μ σ ρ → Run X.K G W σ F μ H (IsU X.K G) (fb ρ S) Q → tb σ H Q)
    (qc : ∀ σ H ρ S F μ Q, Rl X.K G F μ S H → EnvIs X.K G F μ σ ρ → Run X.K G W σ F μ H (IsU X.K G) (fc ρ S) Q → tc σ H Q)
    (R : Rl X.K G F μ S H) (E : EnvIs X.K G F μ σ ρ) {γ δ : Type} {rel : Hp → List Addr → δ → γ → Prop} {k : Bool → Sto → Out γ} {Q' : δ → Hp → Prop} (h : Run X.K G W σ F μ H rel ((cmp3 g g' fa fb fc ρ S).bind k) Q')
    (hk : ∀ b F' μ' H' S', Rl X.K G F' μ' S' H' → Run X.K G W σ F' μ' H' rel (k b S') Q' → Q (.bl b) H') : tChain r r' ta tb tc σ H Q := by
  have h : Run X.K G W σ F μ H rel ((fa ρ S).bind fun x S1 => (fb ρ S1).bind fun y S2 => (outB (g S2 x y) S2).bind fun q S3 => if q = true then (fc ρ S3).bind fun z S4 => (outB (g' S4 y z) S4).bind k else k false S3) Q' := by
    unfold cmp3 at h
    cases e1 : fa ρ S with
    | exc x S1 => rw [e1] at h; exact h
    | bad => rw [e1] at h; exact h
    | ok x S1 =>
      rw [e1] at h
      simp only [Out.bind_ok] at h ⊢
      cases e2 : fb ρ S1 with
      | exc x S1 => rw [e2] at h; exact h
      | bad => rw [e2] at h; exact h
      | ok y S2 =>
        rw [e2] at h
        simp only [Out.bind_ok] at h ⊢
        cases e3 : g S2 x y with
        | none => rw [e3] at h; exact h
        | some q =>
          rw [e3] at h
          cases q with
          | false => exact h
          | true =>
            simp only [outB_some, Out.bind_ok, if_true] at h ⊢
            cases e4 : fc ρ S2 <;> rw [e4] at h <;> exact h
  refine qa σ H ρ S F μ _ R E (h.bind fun x S1 v F1 μ1 H1 _ e1 R1 r1 h1 => ?_)
  refine qb σ H1 ρ S1 F1 μ1 _ R1 (E.mono e1) (h1.bind fun y S2 w F2 μ2 H2 _ e2 R2 r2 h2 => ?_)
  cases q : g S2 x y with
  | none => rw [q] at h2; exact h2.elim
  | some q1 =>
    rw [q] at h2
    refine hg F2 μ2 S2 H2 v w x y q1 _ R2 (r1.mono e2) r2 q ⟨q1, rfl, ?_⟩
    cases q1 with
    | false =>
      rw [if_neg Bool.false_ne_true]
      exact hk false _ _ _ _ R2 h2
    | true =>
      rw [if_pos rfl]
      refine qc σ H2 ρ S2 F2 μ2 _ R2 ((E.mono e1).mono e2) (Run.bind (show Run X.K G W σ F2 μ2 H2 rel ((fc ρ S2).bind fun z S4 => (outB (g' S4 y z) S4).bind k) Q' from h2) fun z S3 u F3 μ3 H3 _ e3 R3 r3 h3 => ?_)
      cases q' : g' S3 y z with
      | none => rw [q'] at h3; exact h3.elim
      | some q2 =>
        rw [q'] at h3
        exact hg' F3 μ3 S3 H3 w u y z q2 _ R3 (r2.mono e3) r3 q' (hk q2 _ _ _ _ R3 h3)
theorem ee_cmp3 {op op' : CmpOp} {r r' : R2} {g g' : Sto → U → U → Option Bool} (ho : OpR X (compareOp op) r) (ho' : OpR X (compareOp op') r') (hg : CmpOk X G r g) (hg' : CmpOk X G r' g') (ha : EE X G W a fa) (hb : EE X G W b fb) (hc : EE X G W c fc) (hs : setless c = true) :
    EE X G W (.Compare a [op, op'] [b, c] pos) (fun ρ S => (cmp3 g g' fa fb fc ρ S).bind bV) := by
  obtain ⟨ta, pa, qa⟩ := ha.ex
  obtain ⟨tb, pb, qb⟩ := hb.ex
  obtain ⟨tc, pc, qc⟩ := hc.ex
  exact ⟨_, pe_chain ho ho' pa pb pc (chainM hs), fun σ H ρ S F μ Q R E h => run_cmp3 hg hg' qa qb qc R E h fun b F' μ' H' S' R' h' => h'.now R' (IsD.bl b)⟩
theorem et_cmp3 {op op' : CmpOp} {r r' : R2} {g g' : Sto → U → U → Option Bool} (ho : OpR X (compareOp op) r) (ho' : OpR X (compareOp op') r') (hg : CmpOk X G r g) (hg' : CmpOk X G r' g') (ha : EE X G W a fa) (hb : EE X G W b fb) (hc : EE X G W c fc) (hs : setless c = true) :
    ET X G W (.Compare a [op, op'] [b, c] pos) (cmp3 g g' fa fb fc) := by
  obtain ⟨ta, pa, qa⟩ := ha.ex
  obtain ⟨tb, pb, qb⟩ := hb.ex
  obtain ⟨tc, pc, qc⟩ := hc.ex
  refine ⟨_, pt_chain ho ho' pa pb pc (chainM hs), fun σ H ρ S F μ Q R E h => ?_⟩
  have h' : Run X.K G W σ F μ H relB ((cmp3 g g' fa fb fc ρ S).bind fun k S => .ok k S) Q := by
    cases e : cmp3 g g' fa fb fc ρ S <;> rw [e] at h <;> exact h
  exact run_cmp3 hg hg' qa qb qc R E h' fun b F' μ' H' S' R' h' => ⟨b, rfl, h'.now R' rfl⟩

/-! ### and, or, not, if -/
/-- a value that is a truth, as a test -/
def boolS (S : Sto) (u : U) : Option Bool := match view S u with
  | .bl b => some b
  | .non => some false
  | .int i => some (i != 0)
  | .str x => if x.length ≤ 16777216 then some ((x.length : Int) != 0) else none
  | .lst xs => some (!xs.isEmpty)
  | .tup xs => some (!xs.isEmpty)
  | _ => none
theorem IsDs.emp {K : PySem.W.Frag} {F : Hp} {vs : List V} {ds : List D} (h : IsDs K G F vs ds) : vs.isEmpty = ds.isEmpty := by
  cases h <;> rfl
theorem tru_of {F : Hp} {μ : List Addr} {S : Sto} {H : Hp} {v : V} {u : U} {k : Bool} (R : Rl X.K G F μ S H) (r : IsU X.K G F μ v u) (h : boolS S u = some k) : TruV X.K v H k := by
  unfold boolS at h
  split at h
  · rename_i b e; obtain rfl := view_bl r e; cases h; rfl
  · rename_i e; obtain rfl := view_non r e; cases h; rfl
  · rename_i b e; obtain rfl := view_int r e; cases h; rfl
  · rename_i x e
    obtain rfl := view_str r e
    split at h
    · rename_i hl; cases h; exact ⟨by rw [← lim_eq]; exact hl, rfl⟩
    · cases h
  · rename_i xs e
    obtain ⟨p, vs, rfl, hp, hs⟩ := view_lst R r e
    cases h
    exact .inl ⟨vs, SqL.of hp, by rw [hs.emp]⟩
  · rename_i xs e
    obtain ⟨p, vs, rfl, hp, hs⟩ := view_tup r e
    cases h
    exact .inr (.inl ⟨vs, R.sub.seqT hp, by rw [hs.emp]⟩)
  · cases h
theorem et_val (he : EE X G W e fa) (hp : plainT e = true) : ET X G W e (fun ρ S => (fa ρ S).bind fun u S1 => outB (boolS S1 u) S1) := by
  obtain ⟨t, p, q⟩ := he.ex
  refine ⟨_, pt_truth p (true_c hp _), fun σ H ρ S F μ Q R E h => ?_⟩
  refine q σ H ρ S F μ _ R E (h.bind fun u S1 v F1 μ1 H1 _ e1 R1 r1 h1 => ?_)
  cases k : boolS S1 u with
  | none => rw [k] at h1; exact h1.elim
  | some b => rw [k] at h1; exact ⟨b, tru_of R1 r1 k, h1.now R1 rfl⟩
theorem et_not {t : SemT} (h : ET X G W a t) : ET X G W (.UnaryOp .Not a pos) (fun ρ S => (t ρ S).bind fun k S1 => .ok (!k) S1) := by
  obtain ⟨t, p, q⟩ := h.ex
  refine ⟨_, pt_not p, fun σ H ρ S F μ Q R E h => ?_⟩
  exact q σ H ρ S F μ _ R E (h.bind fun k S1 b F1 μ1 H1 _ e1 R1 r1 h1 => by cases r1; exact h1.now R1 rfl)
/-- a chain of and, of or: from the left -/
structure EW (X : Cx) (G : Tab) (W : WX) (e : Expr) (f : SemT) : Prop where
  ex : ∃ t : TT, PW X e t ∧ ∀ σ H ρ S F μ Q, Rl X.K G F μ S H → EnvIs X.K G F μ σ ρ → Run X.K G W σ F μ H relB (f ρ S) Q → t σ H Q
theorem EW.et {f : SemT} (h : EW X G W e f) : ET X G W e f := by
  obtain ⟨t, p, q⟩ := h.ex
  exact ⟨_, p.pt, q⟩
def andT (s t : SemT) : SemT := fun ρ S => (s ρ S).bind fun k S1 => if k = true then t ρ S1 else .ok false S1
def orT (s t : SemT) : SemT := fun ρ S => (s ρ S).bind fun k S1 => if k = true then .ok true S1 else t ρ S1
variable {rest : List Expr} {s t : SemT}
theorem ew_and1 (h : ET X G W a t) : EW X G W (.BoolOp .And [a] pos) t := by
  obtain ⟨t, p, q⟩ := h.ex
  exact ⟨_, pw_and1 p, q⟩
theorem ew_or1 (h : ET X G W a t) : EW X G W (.BoolOp .Or [a] pos) t := by
  obtain ⟨t, p, q⟩ := h.ex
  exact ⟨_, pw_or1 p, q⟩
theorem ew_and (h : ET X G W a s) (h' : EW X G W (.BoolOp .And (b :: rest) pos) t) : EW X G W (.BoolOp .And (a :: b :: rest) pos) (andT s t) := by
  obtain ⟨t1, p1, q1⟩ := h.ex
  obtain ⟨t2, p2, q2⟩ := h'.ex
  refine ⟨_, pw_and p1 p2, fun σ H ρ S F μ Q R E h => ?_⟩
  refine q1 σ H ρ S F μ _ R E (Run.bind h fun k S1 b F1 μ1 H1 _ e1 R1 r1 h1 => ?_)
  cases r1
  cases k with
  | true => rw [if_pos rfl]; exact q2 σ H1 ρ S1 F1 μ1 _ R1 (E.mono e1) h1
  | false => rw [if_neg Bool.false_ne_true]; exact Run.now h1 R1 rfl
theorem ew_or (h : ET X G W a s) (h' : EW X G W (.BoolOp .Or (b :: rest) pos) t) : EW X G W (.BoolOp .Or (a :: b :: rest) pos) (orT s t) := by
  obtain ⟨t1, p1, q1⟩ := h.ex
  obtain ⟨t2, p2, q2⟩ := h'.ex
  refine ⟨_, pw_or p1 p2, fun σ H ρ S F μ Q R E h => ?_⟩
  refine q1 σ H ρ S F μ _ R E (Run.bind h fun k S1 b F1 μ1 H1 _ e1 R1 r1 h1 => ?_)
  cases r1
  cases k with
  | false => rw [if_neg Bool.false_ne_true]; exact q2 σ H1 ρ S1 F1 μ1 _ R1 (E.mono e1) h1
  | true => rw [if_pos rfl]; exact Run.now h1 R1 rfl
/-- as values: all but the last are truths -/
def isBl (S : Sto) (u : U) : Option Bool := match view S u with
  | .bl b => some b
  | _ => none
def andV (f g : SemE) : SemE := fun ρ S => (f ρ S).bind fun u S1 => (outB (isBl S1 u) S1).bind fun k S2 => if k = true then g ρ S2 else bV false S2
def orV (f g : SemE) : SemE := fun ρ S => (f ρ S).bind fun u S1 => (outB (isBl S1 u) S1).bind fun k S2 => if k = true then bV true S2 else g ρ S2
theorem isBl_of {F : Hp} {μ : List Addr} {S : Sto} {v : V} {u : U} {k : Bool} (r : IsU X.K G F μ v u) (h : isBl S u = some k) : v = .bl k := by
  unfold isBl at h
  split at h
  · rename_i b e; cases h; exact view_bl r e
  · cases h
theorem ee_one {op : BoolOp} (h : EE X G W a fa) : EE X G W (.BoolOp op [a] pos) fa := by
  obtain ⟨t, p, q⟩ := h.ex
  exact ⟨_, pe_one p, q⟩
theorem ee_and (h : EE X G W a fa) (h' : EE X G W (.BoolOp .And (b :: rest) pos) fb) : EE X G W (.BoolOp .And (a :: b :: rest) pos) (andV fa fb) := by
  obtain ⟨t1, p1, q1⟩ := h.ex
  obtain ⟨t2, p2, q2⟩ := h'.ex
  refine ⟨_, pe_and p1 p2, fun σ H ρ S F μ Q R E h => ?_⟩
  refine q1 σ H ρ S F μ _ R E (Run.bind h fun u S1 v F1 μ1 H1 _ e1 R1 r1 h1 => ?_)
  cases k : isBl S1 u with
  | none => rw [k] at h1; exact h1.elim
  | some b =>
    rw [k] at h1
    refine ⟨b, isBl_of r1 k, ?_⟩
    cases b with
    | true => rw [if_pos rfl]; exact q2 σ H1 ρ S1 F1 μ1 _ R1 (E.mono e1) h1
    | false => rw [if_neg Bool.false_ne_true]; exact Run.now h1 R1 (IsD.bl false)
theorem ee_or (h : EE X G W a fa) (h' : EE X G W (.BoolOp .Or (b :: rest) pos) fb) : EE X G W (.BoolOp .Or (a :: b :: rest) pos) (orV fa fb) := by
  obtain ⟨t1, p1, q1⟩ := h.ex
  obtain ⟨t2, p2, q2⟩ := h'.ex
  refine ⟨_, pe_or p1 p2, fun σ H ρ S F μ Q R E h => ?_⟩
  refine q1 σ H ρ S F μ _ R E (Run.bind h fun u S1 v F1 μ1 H1 _ e1 R1 r1 h1 => ?_)
  cases k : isBl S1 u with
  | none => rw [k] at h1; exact h1.elim
  | some b =>
    rw [k] at h1
    refine ⟨b, isBl_of r1 k, ?_⟩
    cases b with
    | false => rw [if_neg Bool.false_ne_true]; exact q2 σ H1 ρ S1 F1 μ1 _ R1 (E.mono e1) h1
    | true => rw [if_pos rfl]; exact Run.now h1 R1 (IsD.bl true)
def notV (f : SemE) : SemE := fun ρ S => (f ρ S).bind fun u S1 => (outB (isBl S1 u) S1).bind fun k S2 => bV (!k) S2
theorem ee_not (h : EE X G W a fa) : EE X G W (.UnaryOp .Not a pos) (notV fa) := by
  obtain ⟨t1, p1, q1⟩ := h.ex
  refine ⟨_, pe_not p1, fun σ H ρ S F μ Q R E h => ?_⟩
  refine q1 σ H ρ S F μ _ R E (Run.bind h fun u S1 v F1 μ1 H1 _ e1 R1 r1 h1 => ?_)
  cases k : isBl S1 u with
  | none => rw [k] at h1; exact h1.elim
  | some b =>
    rw [k] at h1
    exact ⟨b, isBl_of r1 k, Run.now h1 R1 (IsD.bl _)⟩
def ifV (t : SemT) (f g : SemE) : SemE := fun ρ S => (t ρ S).bind fun k S1 => if k = true then f ρ S1 else g ρ S1
theorem ee_if (hc : ET X G W c t) (ha : EE X G W a fa) (hb : EE X G W b fb) : EE X G W (.IfExp c a b pos) (ifV t fa fb) := by
  obtain ⟨t0, p0, q0⟩ := hc.ex
  obtain ⟨t1, p1, q1⟩ := ha.ex
  obtain ⟨t2, p2, q2⟩ := hb.ex
  refine ⟨_, pe_ifExp p0 p1 p2, fun σ H ρ S F μ Q R E h => ?_⟩
  refine q0 σ H ρ S F μ _ R E (Run.bind h fun k S1 b F1 μ1 H1 _ e1 R1 r1 h1 => ?_)
  cases r1
  cases k with
  | true => rw [if_pos rfl]; exact q1 σ H1 ρ S1 F1 μ1 _ R1 (E.mono e1) h1
  | false => rw [if_neg Bool.false_ne_true]; exact q2 σ H1 ρ S1 F1 μ1 _ R1 (E.mono e1) h1

/-! ### lists of arguments, displays -/
def nilA : SemA := fun _ S => .ok [] S
def consA (f : SemE) (g : SemA) : SemA := fun ρ S => (f ρ S).bind fun u S1 => (g ρ S1).bind fun us S2 => .ok (u :: us) S2
theorem ea_nil : EA X G W [] nilA := ⟨_, pa_nil, fun σ H ρ S F μ Q R E h => Run.now h R .nil⟩
theorem ea_cons {g : SemA} (h : EE X G W e fa) (hs : starless e = true) (h' : EA X G W es g) : EA X G W (e :: es) (consA fa g) := by
  obtain ⟨t1, p1, q1⟩ := h.ex
  obtain ⟨t2, p2, q2⟩ := h'.ex
  refine ⟨_, pa_cons p1 p2 (starEach_c hs _ _), fun σ H ρ S F μ Q R E h => ?_⟩
  refine q1 σ H ρ S F μ _ R E (Run.bind h fun u S1 v F1 μ1 H1 _ e1 R1 r1 h1 => ?_)
  refine q2 σ H1 ρ S1 F1 μ1 _ R1 (E.mono e1) (Run.bind h1 fun us S2 vs F2 μ2 H2 _ e2 R2 r2 h2 => ?_)
  exact Run.now h2 R2 (.cons (r1.mono e2) r2)
/-- data, all of them -/
def asD : List U → Option (List D)
  | [] => some []
  | .d x :: us => (asD us).map (x :: ·)
  | .r _ :: _ => none
theorem asD_is {K : PySem.W.Frag} {F : Hp} {μ : List Addr} : ∀ {vs : List V} {us : List U} {ds : List D}, IsUs K G F μ vs us → asD us = some ds → IsDs K G F vs ds
  | _, _, _, .nil, e => by cases e; exact .nil
  | _, u :: us, ds, .cons h t, e => by
    cases u with
    | r k => cases e
    | d x =>
      simp only [asD, Option.map_eq_some_iff] at e
      obtain ⟨ds', e, rfl⟩ := e
      exact .cons h (asD_is t e)
def tupS (S : Sto) (us : List U) : Out U := match asD us with
  | some ds => if ds.length ≤ 16777216 then .ok (.d (.tup ds)) S else .bad
  | none => .bad
def lstS (S : Sto) (us : List U) : Out U := match asD us with
  | some ds => if ds.length ≤ 16777216 then .ok (.d (.lst ds)) S else .bad
  | none => .bad
/-- a new list that may be changed -/
def newS (S : Sto) (us : List U) : Out U := match asD us with
  | some ds => if ds.length ≤ 16777216 then .ok (.r S.length) (S ++ [.lst ds]) else .bad
  | none => .bad
theorem ee_tup {g : SemA} {x1 : Nat} (h : EA X G W es g) : EE X G W (.Tuple es x1 pos) (fun ρ S => (g ρ S).bind fun us S1 => tupS S1 us) := by
  obtain ⟨t1, p1, q1⟩ := h.ex
  refine ⟨_, pe_tup p1, fun σ H ρ S F μ Q R E h => ?_⟩
  refine q1 σ H ρ S F μ _ R E (Run.bind h fun us S1 vs F1 μ1 H1 _ e1 R1 r1 h1 => ?_)
  unfold tupS at h1
  split at h1
  · rename_i ds ed
    split at h1
    · rename_i hl
      have hs := asD_is r1 ed
      exact ⟨by rw [hs.length, ← lim_eq]; exact hl, fun p hp => h1 _ _ _ _ (Ex.anew R1 hp) (R1.anew hp) (IsD.tup (SqT.of upd_same) (hs.mono (same_new (R1.fnone hp))))⟩
    · exact h1.elim
  · exact h1.elim
theorem ee_lst {g : SemA} (h : EA X G W es g) : EE X G W (.List es pos) (fun ρ S => (g ρ S).bind fun us S1 => lstS S1 us) := by
  obtain ⟨t1, p1, q1⟩ := h.ex
  refine ⟨_, pe_lst p1, fun σ H ρ S F μ Q R E h => ?_⟩
  refine q1 σ H ρ S F μ _ R E (Run.bind h fun us S1 vs F1 μ1 H1 _ e1 R1 r1 h1 => ?_)
  unfold lstS at h1
  split at h1
  · rename_i ds ed
    split at h1
    · rename_i hl
      have hs := asD_is r1 ed
      exact ⟨by rw [hs.length, ← lim_eq]; exact hl, fun p hp => h1 _ _ _ _ (Ex.anew R1 hp) (R1.anew hp) (IsD.lst upd_same (hs.mono (same_new (R1.fnone hp))))⟩
    · exact h1.elim
  · exact h1.elim
theorem ee_new {g : SemA} (h : EA X G W es g) : EE X G W (.List es pos) (fun ρ S => (g ρ S).bind fun us S1 => newS S1 us) := by
  obtain ⟨t1, p1, q1⟩ := h.ex
  refine ⟨_, pe_lst p1, fun σ H ρ S F μ Q R E h => ?_⟩
  refine q1 σ H ρ S F μ _ R E (Run.bind h fun us S1 vs F1 μ1 H1 _ e1 R1 r1 h1 => ?_)
  unfold newS at h1
  split at h1
  · rename_i ds ed
    split at h1
    · rename_i hl
      have hs := asD_is r1 ed
      exact ⟨by rw [hs.length, ← lim_eq]; exact hl, fun p hp => h1 _ _ _ _ (Ex.newR hp) (R1.newR hp ⟨vs, upd_same, hs⟩) ⟨p, by rw [← R1.len, List.getElem?_append_right (Nat.le_refl _)]; simp, rfl⟩⟩
    · exact h1.elim
  · exact h1.elim
end
end Pq

namespace Pq
open PySem PySem.Spec PyProof.Rows L2
section
variable {X : Cx} {G : Tab} {W : WX} {a b c e o : Expr} {es : List Expr} {fa fb fc : SemE} {pos p2 : Pos}

/-! ### items -/
theorem IsDs.at {K : PySem.W.Frag} {F : Hp} {vs : List V} {ds : List D} {i : Int} {d : D} (h : IsDs K G F vs ds) (e : atI ds i = some d) : ∃ v, atI vs i = some v ∧ IsD K G F v d := by
  unfold atI at e ⊢
  rw [h.length]
  cases q : ixN ds.length i with
  | none => rw [q] at e; cases e
  | some j =>
    rw [q] at e
    exact h.get e
theorem at_map {α β : Type} (f : α → β) (xs : List α) (i : Int) : atI (xs.map f) i = (atI xs i).map f := by
  unfold atI
  rw [List.length_map]
  cases ixN xs.length i with
  | none => rfl
  | some j => simp
def ixS (S : Sto) (o i : U) : Out U := match view S o, view S i with
  | .lst xs, .int i => match atI xs i with
    | some d => .ok (.d d) S
    | none => .bad
  | .tup xs, .int i => match atI xs i with
    | some d => .ok (.d d) S
    | none => .bad
  | .scr ns, .int i => match atI ns i with
    | some n => .ok (.d (.int n)) S
    | none => .bad
  | .str x, .int i => if x.length ≤ 16777216 then (match atI x.cps.toList i with
    | some c => .ok (.d (.str ⟨#[c]⟩)) S
    | none => .bad) else .bad
  | _, _ => .bad
theorem ee_ix (ha : EE X G W a fa) (hb : EE X G W b fb) (hs : sliceless b = true) : EE X G W (.Subscript a b pos) (fun ρ S => (fa ρ S).bind fun x S1 => (fb ρ S1).bind fun y S2 => ixS S2 x y) := by
  obtain ⟨ta, pa, qa⟩ := ha.ex
  obtain ⟨tb, pb, qb⟩ := hb.ex
  refine ⟨_, pe_ix ix_seq pa pb (sub_c hs), fun σ H ρ S F μ Q R E h => ?_⟩
  refine qa σ H ρ S F μ _ R E (h.bind fun x S1 v F1 μ1 H1 _ e1 R1 r1 h1 => ?_)
  refine qb σ H1 ρ S1 F1 μ1 _ R1 (E.mono e1) (h1.bind fun y S2 w F2 μ2 H2 _ e2 R2 r2 h2 => ?_)
  have r1 := r1.mono e2
  unfold ixS at h2
  split at h2
  · rename_i xs i q1 q2
    split at h2
    · rename_i d q3
      obtain ⟨p, vs, rfl, hp, hs⟩ := view_lst R2 r1 q1
      obtain rfl := view_int r2 q2
      obtain ⟨u, hu, ru⟩ := hs.at q3
      exact .inl ⟨p, vs, i, u, rfl, rfl, SqL.of hp, hu, h2.now R2 ru⟩
    · exact h2.elim
  · rename_i xs i q1 q2
    split at h2
    · rename_i d q3
      obtain ⟨p, vs, rfl, hp, hs⟩ := view_tup r1 q1
      obtain rfl := view_int r2 q2
      obtain ⟨u, hu, ru⟩ := hs.at q3
      exact .inr (.inl ⟨p, vs, i, u, rfl, rfl, R2.sub.seqT hp, hu, h2.now R2 ru⟩)
    · exact h2.elim
  · rename_i ns i q1 q2
    split at h2
    · rename_i d q3
      obtain ⟨p, rfl, hp⟩ := view_scr r1 q1
      obtain rfl := view_int r2 q2
      exact .inl ⟨p, _, i, .int d, rfl, rfl, R2.sub.seq hp, by rw [at_map, q3]; rfl, h2.now R2 (IsD.int d)⟩
    · exact h2.elim
  · rename_i x i q1 q2
    split at h2
    · rename_i hl
      split at h2
      · rename_i c q3
        obtain rfl := view_str r1 q1
        obtain rfl := view_int r2 q2
        exact .inr (.inr ⟨x, i, c, rfl, rfl, by rw [← lim_eq]; exact hl, q3, h2.now R2 (IsD.str _)⟩)
      · exact h2.elim
    · exact h2.elim
  · exact h2.elim

/-! ### slices -/
def cut {α : Type} (xs : List α) (lo hi : Option Int) : List α := (xs.drop (HT.sIx xs.length 0 lo)).take (HT.sIx xs.length xs.length hi - HT.sIx xs.length 0 lo)
theorem cut_V (vs : List V) (lo hi : Option Int) : cutV vs lo hi = cut vs lo hi := rfl
theorem IsDs.cut {K : PySem.W.Frag} {F : Hp} {vs : List V} {ds : List D} (h : IsDs K G F vs ds) (lo hi : Option Int) : IsDs K G F (cutV vs lo hi) (cut ds lo hi) := by
  rw [cut_V]
  unfold Pq.cut
  rw [h.length]
  exact (h.drop _).take _
theorem cut_map {α β : Type} (f : α → β) (xs : List α) (lo hi : Option Int) : cut (xs.map f) lo hi = (cut xs lo hi).map f := by
  unfold cut
  rw [List.length_map, List.map_take, List.map_drop]
def sliceS (S : Sto) (o : U) (lo hi : Option Int) : Out U := match view S o with
  | .lst xs => .ok (.d (.lst (cut xs lo hi))) S
  | .tup xs => .ok (.d (.tup (cut xs lo hi))) S
  | .scr ns => .ok (.d (.lst ((cut ns lo hi).map .int))) S
  | _ => .bad
theorem cut_whole {α : Type} {xs : List α} {lo hi : Option Int} (h : HT.sIx xs.length 0 lo = 0 ∧ HT.sIx xs.length xs.length hi = xs.length) : cut xs lo hi = xs := by
  unfold cut
  rw [h.1, h.2]
  simp
theorem ints_data {K : PySem.W.Frag} {F : Hp} : ∀ ns : List Int, IsDs K G F (ns.map V.int) (ns.map D.int)
  | [] => .nil
  | n :: ns => .cons (.int n) (ints_data ns)
theorem slice_of {F : Hp} {μ : List Addr} {S : Sto} {H : Hp} {σ : L2.St} {v : V} {u : U} {lo hi : Option Int} {Q : VK} (R : Rl X.K G F μ S H) (r : IsU X.K G F μ v u) (h : Run X.K G W σ F μ H (IsU X.K G) (sliceS S u lo hi) Q) :
    rSlL X.K v lo hi H Q ∨ rSlA X.K v lo hi H Q := by
  unfold sliceS at h
  split at h
  · rename_i xs e
    obtain ⟨p, vs, rfl, hp, hs⟩ := view_lst R r e
    exact .inl ⟨p, vs, rfl, SqL.of hp, fun n hn => h _ _ _ _ (Ex.anew R hn) (R.anew hn) (IsD.lst upd_same ((hs.cut lo hi).mono (same_new (R.fnone hn))))⟩
  · rename_i xs e
    obtain ⟨p, vs, rfl, hp, hs⟩ := view_tup r e
    refine .inr ⟨p, vs, rfl, R.sub.seqT hp, fun hw => ?_, fun _ n hn => h _ _ _ _ (Ex.anew R hn) (R.anew hn) (IsD.tup (SqT.of upd_same) ((hs.cut lo hi).mono (same_new (R.fnone hn))))⟩
    have e2 : cut xs lo hi = xs := cut_whole (by rw [← hs.length]; exact hw)
    rw [e2] at h
    exact h.now R (IsD.tup hp hs)
  · rename_i ns e
    obtain ⟨p, rfl, hp⟩ := view_scr r e
    refine .inl ⟨p, _, rfl, R.sub.seq hp, fun n hn => h _ _ _ _ (Ex.anew R hn) (R.anew hn) (IsD.lst upd_same ?_)⟩
    rw [cut_V, cut_map]
    exact ints_data _
  · exact h.elim
def partS (f : Option SemE) (ρ : Ev) (S : Sto) : Out (Option Int) := match f with
  | none => .ok none S
  | some f => (f ρ S).bind fun u S1 => match view S1 u with
    | .int i => .ok (some i) S1
    | _ => .bad
inductive EO (X : Cx) (G : Tab) (W : WX) : Option Expr → Option SemE → Prop
  | none : EO X G W none none
  | some {e : Expr} {f : SemE} (h : EE X G W e f) : EO X G W (some e) (some f)
theorem EO.ex {oe : Option Expr} {f : Option SemE} (h : EO X G W oe f) : ∃ t : TO, PO X oe t ∧ ∀ σ H ρ S F μ (Q : Option Int → Hp → Prop), Rl X.K G F μ S H → EnvIs X.K G F μ σ ρ → Run X.K G W σ F μ H (fun _ _ b a => b = a) (partS f ρ S) Q → t σ H Q := by
  cases h with
  | none => exact ⟨_, po_none, fun σ H ρ S F μ Q R E h => Run.now h R rfl⟩
  | some h =>
    obtain ⟨t, p, q⟩ := h.ex
    refine ⟨_, po_some p, fun σ H ρ S F μ Q R E h => ?_⟩
    refine q σ H ρ S F μ _ R E (Run.bind h fun u S1 v F1 μ1 H1 _ e1 R1 r1 h1 => ?_)
    split at h1
    · rename_i i e
      exact ⟨i, view_int r1 e, Run.now h1 R1 rfl⟩
    · exact h1.elim
theorem ee_slice {lo hi : Option Expr} {fl fh : Option SemE} (ha : EE X G W a fa) (hl : EO X G W lo fl) (hh : EO X G W hi fh) : EE X G W (.Subscript a (.Slice lo hi none p2) pos) (fun ρ S => (fa ρ S).bind fun u S1 => (partS fl ρ S1).bind fun l S2 => (partS fh ρ S2).bind fun h S3 => sliceS S3 u l h) := by
  obtain ⟨ta, pa, qa⟩ := ha.ex
  obtain ⟨tl, pl, ql⟩ := hl.ex
  obtain ⟨th, ph, qh⟩ := hh.ex
  refine ⟨_, pe_slice (sl_list.or sl_tupA) pa pl ph, fun σ H ρ S F μ Q R E h => ?_⟩
  refine qa σ H ρ S F μ _ R E (h.bind fun x S1 v F1 μ1 H1 _ e1 R1 r1 h1 => ?_)
  refine ql σ H1 ρ S1 F1 μ1 _ R1 (E.mono e1) (Run.bind h1 fun l S2 l' F2 μ2 H2 _ e2 R2 r2 h2 => ?_)
  refine qh σ H2 ρ S2 F2 μ2 _ R2 ((E.mono e1).mono e2) (Run.bind h2 fun k S3 k' F3 μ3 H3 _ e3 R3 r3 h3 => ?_)
  cases r2
  cases r3
  exact slice_of R3 ((r1.mono e2).mono e3) h3

/-! ### built-in functions -/
theorem starless_any {pos : Pos} {env : PySem.Env} : ∀ {es : List Expr}, es.all starless = true → (backTo pos (starEach es env)).any (·.1) = false
  | [], _ => rfl
  | e :: es, h => by
    simp only [List.all_cons, Bool.and_eq_true] at h
    rw [starEach_c h.1]
    have := starless_any (pos := pos) (env := env) h.2
    unfold backTo at this ⊢
    simpa using this
/-- a rule r of a call answers as g says -/
def CallOk (X : Cx) (G : Tab) (r : List V → Hp → VK → Prop) (g : Sto → List U → Out U) : Prop :=
  ∀ (W : WX) σ F μ S H vs us (Q : VK), Rl X.K G F μ S H → IsUs X.K G F μ vs us → Run X.K G W σ F μ H (IsU X.K G) (g S us) Q → r vs H Q
variable {x : Str} {p : Pos} {ga : SemA} {g : Sto → List U → Out U} {r : List V → Hp → VK → Prop} {id T : String}
theorem ee_callB (hc : CallR X (.builtin id) r) (hg : CallOk X G r g) (hgl : Gl X x) (hm : X.mg x = none) (hv : bootBuiltins x = some (.builtin id)) (ha : EA X G W (e :: es) ga) (hs : (e :: es).all starless = true) (hn : x ≠ "__name__") (hdb : (x == ("__debug__" : Str)) = false) :
    EE X G W (.Call (.Name x p) (e :: es) [] pos) (fun ρ S => (ga ρ S).bind fun us S1 => g S1 us) := by
  obtain ⟨t, pa, qa⟩ := ha.ex
  simp only [List.all_cons, Bool.and_eq_true] at hs
  refine ⟨_, pe_callB hc hgl hm hv pa hn hdb (starEach_c hs.1 _ _) (starless_any hs.2), fun σ H ρ S F μ Q R E h => ?_⟩
  exact qa σ H ρ S F μ _ R E (Run.bind h fun us S1 vs F1 μ1 H1 _ e1 R1 r1 h1 => hg W σ F1 μ1 S1 H1 vs us Q R1 r1 h1)
theorem ee_callTy (hc : CallR X (.type T) r) (hg : CallOk X G r g) (hgl : Gl X x) (hm : X.mg x = none) (hv : bootBuiltins x = some (.type T)) (ha : EA X G W (e :: es) ga) (hs : (e :: es).all starless = true) (hn : x ≠ "__name__") (hdb : (x == ("__debug__" : Str)) = false) :
    EE X G W (.Call (.Name x p) (e :: es) [] pos) (fun ρ S => (ga ρ S).bind fun us S1 => g S1 us) := by
  obtain ⟨t, pa, qa⟩ := ha.ex
  simp only [List.all_cons, Bool.and_eq_true] at hs
  refine ⟨_, pe_callTy hc hgl hm hv pa hn hdb (starEach_c hs.1 _ _) (starless_any hs.2), fun σ H ρ S F μ Q R E h => ?_⟩
  exact qa σ H ρ S F μ _ R E (Run.bind h fun us S1 vs F1 μ1 H1 _ e1 R1 r1 h1 => hg W σ F1 μ1 S1 H1 vs us Q R1 r1 h1)

def one (k : U → Out U) : List U → Out U
  | [u] => k u
  | _ => .bad
def two (k : U → U → Out U) : List U → Out U
  | [u, w] => k u w
  | _ => .bad
theorem one_ok {r : List V → Hp → VK → Prop} {k : Sto → U → Out U} (h : ∀ (W : WX) σ F μ S H v u (Q : VK), Rl X.K G F μ S H → IsU X.K G F μ v u → Run X.K G W σ F μ H (IsU X.K G) (k S u) Q → r [v] H Q) : CallOk X G r (fun S => one (k S)) := by
  intro W σ F μ S H vs us Q R rr q
  cases rr with
  | nil => exact q.elim
  | cons h1 t =>
    cases t with
    | nil => exact h W σ F μ S H _ _ Q R h1 q
    | cons _ _ => exact q.elim
theorem two_ok {r : List V → Hp → VK → Prop} {k : Sto → U → U → Out U} (h : ∀ (W : WX) σ F μ S H v w u z (Q : VK), Rl X.K G F μ S H → IsU X.K G F μ v u → IsU X.K G F μ w z → Run X.K G W σ F μ H (IsU X.K G) (k S u z) Q → r [v, w] H Q) : CallOk X G r (fun S => two (k S)) := by
  intro W σ F μ S H vs us Q R rr q
  cases rr with
  | nil => exact q.elim
  | cons h1 t =>
    cases t with
    | nil => exact q.elim
    | cons h2 t =>
      cases t with
      | nil => exact h W σ F μ S H _ _ _ _ Q R h1 h2 q
      | cons _ _ => exact q.elim
/-- len -/
def lenS (S : Sto) (u : U) : Out U := match view S u with
  | .lst xs => .ok (.d (.int xs.length)) S
  | .tup xs => .ok (.d (.int xs.length)) S
  | .scr ns => .ok (.d (.int ns.length)) S
  | .str x => if x.length ≤ 16777216 then .ok (.d (.int x.length)) S else .bad
  | .dct ks _ => .ok (.d (.int ks.length)) S
  | _ => .bad
def rLenM (K : PySem.W.Frag) : List V → Hp → VK → Prop := fun xs H Q => (∃ x n, xs = [x] ∧ LenV K x H n ∧ Q (.int n) H) ∨ ∃ a kvs, xs = [.ref a] ∧ Rd H a (.dK kvs) ∧ Q (.int kvs.length) H
theorem call_lenM : CallR X (.builtin "len") (rLenM X.K) := by
  intro pins s σ H xs us Q I r h
  rcases h with h | ⟨a, kvs, rfl, h, q⟩
  · exact call_len pins s σ H xs us Q I r h
  · obtain rfl := Vals.ref1 r
    exact d_len I h fun t s' I' => ⟨.int kvs.length, H, I', ⟨t, rfl⟩, q⟩
theorem view_dct {F : Hp} {μ : List Addr} {S : Sto} {H : Hp} {v : V} {u : U} {ks ds : List D} (R : Rl X.K G F μ S H) (h : IsU X.K G F μ v u) (e : view S u = .dct ks ds) : ∃ a kvs, v = .ref a ∧ Rd H a (.dK kvs) ∧ kvs.map (fun q => kD q.1) = ks ∧ IsDs X.K G F (kvs.map (·.2)) ds := by
  cases u with
  | d x =>
    have e' : x = .dct ks ds := e
    subst e'
    cases h with
    | dct q hk hs => exact ⟨_, _, rfl, R.sub.rd q, hk, hs⟩
  | r k =>
    obtain ⟨a, h1, rfl⟩ := h
    rw [view_r] at e
    cases es : S[k]? with
    | none => rw [es] at e; cases e
    | some o =>
      rw [es] at e
      cases o with
      | dead => cases e
      | lst ds' => cases e
      | dct kvs =>
        cases e
        obtain ⟨_, kws, q, hk, hs⟩ := R.obj k a _ h1 es (by intro z; cases z)
        exact ⟨a, kws, rfl, .inl q, hk, hs⟩
theorem len_ok : CallOk X G (rLenM X.K) (fun S => one (lenS S)) := by
  refine one_ok fun W σ F μ S H v u Q R r h => ?_
  unfold lenS at h
  split at h
  · rename_i xs e
    obtain ⟨p, vs, rfl, hp, hs⟩ := view_lst R r e
    exact .inl ⟨_, xs.length, rfl, .inl ⟨vs, SqL.of hp, hs.length.symm⟩, h.now R (IsD.int _)⟩
  · rename_i xs e
    obtain ⟨p, vs, rfl, hp, hs⟩ := view_tup r e
    exact .inl ⟨_, xs.length, rfl, .inr ⟨vs, R.sub.seqT hp, hs.length.symm⟩, h.now R (IsD.int _)⟩
  · rename_i ns e
    obtain ⟨p, rfl, hp⟩ := view_scr r e
    exact .inl ⟨_, ns.length, rfl, .inl ⟨_, R.sub.seq hp, by rw [List.length_map]⟩, h.now R (IsD.int _)⟩
  · rename_i x e
    obtain rfl := view_str r e
    split at h
    · rename_i hl
      exact .inl ⟨_, x.length, rfl, ⟨by rw [← lim_eq]; exact hl, rfl⟩, h.now R (IsD.int _)⟩
    · exact h.elim
  · rename_i ks ds e
    obtain ⟨p, kvs, rfl, hp, hk, hs⟩ := view_dct R r e
    refine .inr ⟨p, kvs, rfl, hp, ?_⟩
    have : kvs.length = ks.length := by rw [← hk, List.length_map]
    rw [this]
    exact h.now R (IsD.int _)
  · exact h.elim
/-- isinstance(x, T) -/
def tyOf : D → Option String
  | .non => some "NoneType" | .bl _ => some "bool" | .int _ => some "int" | .str _ => some "str" | .tup _ => some "tuple" | .lst _ => some "list" | .scr _ => some "list" | .dct _ _ => some "dict"
  | _ => none
def okTy (n : String) : Bool := n == "int" || n == "bool" || n == "tuple" || n == "list" || n == "str" || n == "dict"
def isiB (t n : String) : Bool := t == n || (t == "bool" && n == "int")
/-- sub c c': the c-th class stands under the c'-th -/
def isiS (sub : Nat → Nat → Bool) (S : Sto) (u w : U) : Out U := match view S u with
  | .exn c => (match view S w with
    | .cls c' => bV (sub c c') S
    | .ty n => if n = "ValueError" then bV true S else .bad
    | _ => .bad)
  | d => match tyOf d, view S w with
    | some t, .ty n => if okTy n = true then bV (isiB t n) S else .bad
    | _, _ => .bad
theorem kit_tab {K : PySem.W.Frag} {d : D} {t n : String} (ht : tyOf d = some t) (hn : okTy n = true) : PySem.W.kitOne K (.type t) (.type n) = some (isiB t n) := by
  have hn' : n = "int" ∨ n = "bool" ∨ n = "tuple" ∨ n = "list" ∨ n = "str" ∨ n = "dict" := by
    simpa [okTy, or_assoc] using hn
  have go : ∀ t, (t = "NoneType" ∨ t = "bool" ∨ t = "int" ∨ t = "str" ∨ t = "tuple" ∨ t = "list" ∨ t = "dict") → kitB t n = some (isiB t n) := by
    intro t ht
    rcases ht with rfl | rfl | rfl | rfl | rfl | rfl | rfl <;> rcases hn' with rfl | rfl | rfl | rfl | rfl | rfl <;> decide +kernel
  refine kit_ty (go t ?_)
  cases d <;> simp [tyOf] at ht <;> subst ht <;> simp
theorem tyX_of {K : PySem.W.Frag} {H : Hp} {v : V} {d : D} {t : String} (h : IsD K G H v d) (ht : tyOf d = some t) : TyX K H v (.type t) := by
  cases h with
  | non => cases ht; exact .base .non
  | bl b => cases ht; exact .base (.bl b)
  | int b => cases ht; exact .base (.int b)
  | str b => cases ht; exact .base (.str b)
  | tup h hs =>
    cases ht
    rcases h with (h | ⟨o, h⟩) | ⟨o, its, n, h1, h2, _⟩
    · exact .base (.tup h)
    · exact .fTuple h
    · exact .kTuple h1 h2
  | lst h hs => cases ht; exact .base (.lst h)
  | scr h =>
    cases ht
    rcases h with (h | ⟨o, h⟩) | ⟨o, its, n, h1, h2, _⟩
    · exact .base (.lst h)
    · exact .base (.frz h)
    · exact .kList h1 h2
  | dct h _ _ =>
    cases ht
    rcases h with h | ⟨o, h⟩
    · exact .base (.dK h)
    · exact .fDict h
  | fn f => cases ht
  | cls f => cases ht
  | ty f => cases ht
  | exn f => cases ht
theorem tyOf_ok {d : D} {t : String} (h : tyOf d = some t) : okV d = true := by cases d <;> first | rfl | (simp [tyOf] at h)
/-- what is told of the exceptions that are handled: they are pinned -/
structure ExnOk (X : Cx) (G : Tab) (sub : Nat → Nat → Bool) : Prop where
  pin : ∀ a c, G.exn a = some c → ∃ oe, (a, oe) ∈ X.pn ∧ Zc (.ref (G.cls c)) none oe ∧ (∃ vs, oe.data = .fields vs) ∧ ExcC X.K (G.cls c) ∧ PySem.W.kitOne X.K (.ref (G.cls c)) (.type "ValueError") = some true ∧ ∀ c', PySem.W.kitOne X.K (.ref (G.cls c)) (.ref (G.cls c')) = some (sub c c')
def rIsM (X : Cx) (G : Tab) : List V → Hp → VK → Prop := fun xs H Q => rIsi X.K xs H Q ∨ ∃ (a : Addr) (oe : Obj) (D : Addr) (c : V) (cv : Value) (b : Bool), xs = [.ref a, c] ∧ (a, oe) ∈ X.pn ∧ Zc (.ref D) none oe ∧ (∃ vs, oe.data = .fields vs) ∧ ExcC X.K D ∧ (∀ u, RelV c u → u = cv) ∧ PySem.W.kitOne X.K (.ref D) cv = some b ∧ Q (.bl b) H
theorem call_isM : CallR X (.builtin "isinstance") (rIsM X G) := by
  intro pins s σ H xs us Q I r h
  rcases h with h | ⟨a, oe, D, c, cv, b, rfl, hpn, hz, hf, C, hcv, e, q⟩
  · exact call_isi pins s σ H xs us Q I r h
  · obtain ⟨u1, u2, rfl, r1, r2⟩ := vals2 r
    cases (show u1 = Value.ref a from r1)
    have ec := hcv _ r2
    subst ec
    obtain ⟨hget, _⟩ := I.pin (a, oe) (List.mem_append_left _ hpn)
    obtain ⟨vs, hv⟩ := hf
    have J : PySem.W.InstAt s.heap a oe D none := by
      obtain ⟨oc, od, oda, osl⟩ := oe
      obtain ⟨h1, h2⟩ := hz
      dsimp only at h1 h2 hv
      subst h1 h2 hv
      exact ⟨hget, rfl, rfl, trivial⟩
    exact PySem.W.kia_one (PySem.W.handS_kitx_exc C.hg C.hk C.hs C.hd C.ha C.hn C.ht C.hm) I.kIn J e (fun z => nomatch z) fun tk => ⟨.bl b, H, I.kept (t' := tk) fun _ _ z => z, rfl, q⟩
theorem isi_ok {sub : Nat → Nat → Bool} (hx : ExnOk X G sub) : CallOk X G (rIsM X G) (fun S => two (isiS sub S)) := by
  refine two_ok fun W σ F μ S H v w u z Q R r1 r2 h => ?_
  unfold isiS at h
  split at h
  · rename_i c e1
    cases view_nr r1 e1 ⟨fun _ z => (by cases z), fun _ _ z => (by cases z), fun z => (by cases z)⟩ with
    | exn hc =>
      obtain ⟨oe, p1, p2, p3, p4, p5, p6⟩ := hx.pin _ _ hc
      split at h
      · rename_i c' e2
        cases view_nr r2 e2 ⟨fun _ z => (by cases z), fun _ _ z => (by cases z), fun z => (by cases z)⟩
        exact .inr ⟨_, oe, _, _, .ref (G.cls c'), _, rfl, p1, p2, p3, p4, fun u q => q, p6 c', h.now R (IsD.bl _)⟩
      · rename_i n e2
        split at h
        · rename_i hn
          subst hn
          cases view_nr r2 e2 ⟨fun _ z => (by cases z), fun _ _ z => (by cases z), fun z => absurd (D.ty.inj z) (by decide)⟩
          exact .inr ⟨_, oe, _, _, .type "ValueError", true, rfl, p1, p2, p3, p4, fun u q => q, p5, h.now R (IsD.bl _)⟩
        · exact h.elim
      · exact h.elim
  · split at h
    · rename_i t n q1 q2
      split at h
      · rename_i hn
        cases view_nr r2 q2 ⟨fun _ z => (by cases z), fun _ _ z => (by cases z), fun z => by cases z; exact absurd hn (by decide)⟩
        exact .inl ⟨v, _, .type t, .type n, isiB t n, rfl, .ty n, tyX_of (view_is R r1 (tyOf_ok q1)) q1, kit_tab q1 hn, h.now R (IsD.bl _)⟩
      · exact h.elim
    · exact h.elim
/-- int(x) -/
def intS (S : Sto) (u : U) : Out U := match view S u with
  | .int i => .ok (.d (.int i)) S
  | .bl k => .ok (.d (.int (if k then 1 else 0))) S
  | _ => .bad
theorem int_ok : CallOk X G (fun xs H Q => (∃ i, xs = [.int i] ∧ Q (.int i) H) ∨ ∃ k, xs = [.bl k] ∧ Q (.int (if k then 1 else 0)) H) (fun S => one (intS S)) := by
  refine one_ok fun W σ F μ S H v u Q R r h => ?_
  unfold intS at h
  split at h
  · rename_i i e; obtain rfl := view_int r e; exact .inl ⟨i, rfl, h.now R (IsD.int _)⟩
  · rename_i i e; obtain rfl := view_bl r e; exact .inr ⟨i, rfl, h.now R (IsD.int _)⟩
  · exact h.elim
/-- abs, min, max of whole numbers -/
def absS (S : Sto) (u : U) : Out U := match view S u with
  | .int i => .ok (.d (.int (if i < 0 then -i else i))) S
  | _ => .bad
theorem abs_ok : CallOk X G (fun xs H Q => ∃ i, xs = [.int i] ∧ Q (.int (if i < 0 then -i else i)) H) (fun S => one (absS S)) := by
  refine one_ok fun W σ F μ S H v u Q R r h => ?_
  unfold absS at h
  split at h
  · rename_i i e; obtain rfl := view_int r e; exact ⟨i, rfl, h.now R (IsD.int _)⟩
  · exact h.elim
def max2S (S : Sto) (u w : U) : Out U := match view S u, view S w with
  | .int i, .int j => .ok (.d (.int (if j > i then j else i))) S
  | _, _ => .bad
theorem max2_ok : CallOk X G (fun xs H Q => ∃ i j, xs = [.int i, .int j] ∧ Q (.int (if j > i then j else i)) H) (fun S => two (max2S S)) := by
  refine two_ok fun W σ F μ S H v w u z Q R r1 r2 h => ?_
  unfold max2S at h
  split at h
  · rename_i i j e1 e2; obtain rfl := view_int r1 e1; obtain rfl := view_int r2 e2; exact ⟨i, j, rfl, h.now R (IsD.int _)⟩
  · exact h.elim
def min2S (S : Sto) (u w : U) : Out U := match view S u, view S w with
  | .int i, .int j => .ok (.d (.int (if j < i then j else i))) S
  | _, _ => .bad
theorem min2_ok : CallOk X G (fun xs H Q => ∃ i j, xs = [.int i, .int j] ∧ Q (.int (if j < i then j else i)) H) (fun S => two (min2S S)) := by
  refine two_ok fun W σ F μ S H v w u z Q R r1 r2 h => ?_
  unfold min2S at h
  split at h
  · rename_i i j e1 e2; obtain rfl := view_int r1 e1; obtain rfl := view_int r2 e2; exact ⟨i, j, rfl, h.now R (IsD.int _)⟩
  · exact h.elim
/-- tuple(x), list(x) -/
def tupleS (S : Sto) (u : U) : Out U := match view S u with
  | .lst xs => .ok (.d (.tup xs)) S
  | .tup xs => .ok (.d (.tup xs)) S
  | _ => .bad
theorem tuple_ok : CallOk X G (fun xs H Q => ∃ p ys, xs = [.ref p] ∧ ((SqL X.K H p ys ∧ ∀ l, H l = none → Q (.ref l) (upd H l (.tup ys))) ∨ (SqT X.K H p ys ∧ Q (.ref p) H))) (fun S => one (tupleS S)) := by
  refine one_ok fun W σ F μ S H v u Q R r h => ?_
  unfold tupleS at h
  split at h
  · rename_i xs e
    obtain ⟨p, vs, rfl, hp, hs⟩ := view_lst R r e
    exact ⟨p, vs, rfl, .inl ⟨SqL.of hp, fun n hn => h _ _ _ _ (Ex.anew R hn) (R.anew hn) (IsD.tup (SqT.of upd_same) (hs.mono (same_new (R.fnone hn))))⟩⟩
  · rename_i xs e
    obtain ⟨p, vs, rfl, hp, hs⟩ := view_tup r e
    exact ⟨p, vs, rfl, .inr ⟨R.sub.seqT hp, h.now R (IsD.tup hp hs)⟩⟩
  · exact h.elim
def listS (S : Sto) (u : U) : Out U := match view S u with
  | .lst xs => .ok (.d (.lst xs)) S
  | .tup xs => .ok (.d (.lst xs)) S
  | .scr ns => .ok (.d (.lst (ns.map .int))) S
  | _ => .bad
theorem list_ok : CallOk X G (fun xs H Q => ∃ p ys, xs = [.ref p] ∧ (SqL X.K H p ys ∨ SqT X.K H p ys) ∧ ∀ l, H l = none → Q (.ref l) (upd H l (.lst ys))) (fun S => one (listS S)) := by
  refine one_ok fun W σ F μ S H v u Q R r h => ?_
  unfold listS at h
  split at h
  · rename_i xs e
    obtain ⟨p, vs, rfl, hp, hs⟩ := view_lst R r e
    exact ⟨p, vs, rfl, .inl (SqL.of hp), fun n hn => h _ _ _ _ (Ex.anew R hn) (R.anew hn) (IsD.lst upd_same (hs.mono (same_new (R.fnone hn))))⟩
  · rename_i xs e
    obtain ⟨p, vs, rfl, hp, hs⟩ := view_tup r e
    exact ⟨p, vs, rfl, .inr (R.sub.seqT hp), fun n hn => h _ _ _ _ (Ex.anew R hn) (R.anew hn) (IsD.lst upd_same (hs.mono (same_new (R.fnone hn))))⟩
  · rename_i ns e
    obtain ⟨p, rfl, hp⟩ := view_scr r e
    exact ⟨p, _, rfl, .inl (R.sub.seq hp), fun n hn => h _ _ _ _ (Ex.anew R hn) (R.anew hn) (IsD.lst upd_same (ints_data _))⟩
  · exact h.elim
/-- whole numbers, truths -/
def intsD : List D → Option (List Int)
  | [] => some []
  | .int i :: ds => (intsD ds).map (i :: ·)
  | _ :: _ => none
def blsD : List D → Option (List Bool)
  | [] => some []
  | .bl i :: ds => (blsD ds).map (i :: ·)
  | _ :: _ => none
theorem intsD_of {K : PySem.W.Frag} {F : Hp} : ∀ {vs : List V} {ds : List D} {ns : List Int}, IsDs K G F vs ds → intsD ds = some ns → vs = ns.map V.int
  | _, _, _, .nil, e => by cases e; rfl
  | v :: vs, d :: ds, ns, .cons h t, e => by
    cases d <;> simp only [intsD, Option.map_eq_some_iff] at e <;> first | cases e; done | skip
    rename_i i
    obtain ⟨ms, e, rfl⟩ := e
    cases h
    rw [intsD_of t e]
    rfl
theorem blsD_of {K : PySem.W.Frag} {F : Hp} : ∀ {vs : List V} {ds : List D} {ns : List Bool}, IsDs K G F vs ds → blsD ds = some ns → vs = ns.map V.bl
  | _, _, _, .nil, e => by cases e; rfl
  | v :: vs, d :: ds, ns, .cons h t, e => by
    cases d <;> simp only [blsD, Option.map_eq_some_iff] at e <;> first | cases e; done | skip
    rename_i i
    obtain ⟨ms, e, rfl⟩ := e
    cases h
    rw [blsD_of t e]
    rfl
def onL (S : Sto) (u : U) (k : List D → Out U) : Out U := match view S u with
  | .lst xs => k xs
  | _ => .bad
def sumS (S : Sto) (u : U) : Out U := onL S u fun xs => match intsD xs with
  | some ns => .ok (.d (.int ns.sum)) S
  | none => .bad
def allS (S : Sto) (u : U) : Out U := onL S u fun xs => match blsD xs with
  | some ns => bV (ns.all _root_.id) S
  | none => .bad
def anyS (S : Sto) (u : U) : Out U := onL S u fun xs => match blsD xs with
  | some ns => bV (ns.any _root_.id) S
  | none => .bad
theorem sum_ok : CallOk X G (rSum X.K) (fun S => one (sumS S)) := by
  refine one_ok fun W σ F μ S H v u Q R r h => ?_
  unfold sumS onL at h
  split at h
  · rename_i xs e
    obtain ⟨p, vs, rfl, hp, hs⟩ := view_lst R r e
    dsimp only at h
    split at h
    · rename_i ns q
      exact ⟨p, ns, rfl, by rw [← intsD_of hs q]; exact SqL.of hp, h.now R (IsD.int _)⟩
    · exact h.elim
  · exact h.elim
theorem all_ok : CallOk X G (rAll X.K) (fun S => one (allS S)) := by
  refine one_ok fun W σ F μ S H v u Q R r h => ?_
  unfold allS onL at h
  split at h
  · rename_i xs e
    obtain ⟨p, vs, rfl, hp, hs⟩ := view_lst R r e
    dsimp only at h
    split at h
    · rename_i ns q
      exact ⟨p, ns, rfl, by rw [← blsD_of hs q]; exact SqL.of hp, h.now R (IsD.bl _)⟩
    · exact h.elim
  · exact h.elim
theorem any_ok : CallOk X G (rAny X.K) (fun S => one (anyS S)) := by
  refine one_ok fun W σ F μ S H v u Q R r h => ?_
  unfold anyS onL at h
  split at h
  · rename_i xs e
    obtain ⟨p, vs, rfl, hp, hs⟩ := view_lst R r e
    dsimp only at h
    split at h
    · rename_i ns q
      exact ⟨p, ns, rfl, by rw [← blsD_of hs q]; exact SqL.of hp, h.now R (IsD.bl _)⟩
    · exact h.elim
  · exact h.elim
end
end Pq

namespace Pq
open PySem PySem.Spec PyProof.Rows L2

/-! ### from state to state, where the tail of what may be changed can be dropped -/
structure Ez (n : Nat) (F : Hp) (μ : List Addr) (H : Hp) (F' : Hp) (μ' : List Addr) (H' : Hp) : Prop where
  fr : Same F F'
  low : n ≤ μ'.length
  pre : μ'.take n = μ.take n
  keep : ∀ b o, H b = some o → b ∉ μ → H' b = some o
  new : ∀ b o, F' b = some o → F b = some o ∨ H b = none ∨ b ∈ μ
  newμ : ∀ b, b ∈ μ' → b ∈ μ ∨ H b = none
section
variable {n : Nat} {F F' F'' H H' H'' : Hp} {μ μ' μ'' : List Addr}
theorem Ez.refl (h : n ≤ μ.length) : Ez n F μ H F μ H := ⟨Same.refl _, h, rfl, fun _ _ h _ => h, fun _ _ h => .inl h, fun _ h => .inl h⟩
theorem Ex.ez (a : Ex F μ H F' μ' H') (h : n ≤ μ.length) : Ez n F μ H F' μ' H' := by
  obtain ⟨t, e⟩ := a.pre
  exact ⟨a.fr, by rw [e, List.length_append]; omega, by rw [e, List.take_append_of_le_length h], a.keep, a.new, a.newμ⟩
theorem Ez.trans (a : Ez n F μ H F' μ' H') (b : Ez n F' μ' H' F'' μ'' H'') : Ez n F μ H F'' μ'' H'' where
  fr := a.fr.trans b.fr
  low := b.low
  pre := b.pre.trans a.pre
  keep := fun c o h hn => by
    refine b.keep c o (a.keep c o h hn) fun hm => ?_
    rcases a.newμ c hm with z | z
    · exact hn z
    · rw [h] at z; cases z
  new := fun c o h => by
    rcases b.new c o h with z | z | z
    · exact a.new c o z
    · by_cases hm : c ∈ μ
      · exact .inr (.inr hm)
      · cases e : H c with
        | none => exact .inr (.inl rfl)
        | some q => rw [a.keep c q e hm] at z; cases z
    · rcases a.newμ c z with z | z
      · exact .inr (.inr z)
      · exact .inr (.inl z)
  newμ := fun c h => by
    rcases b.newμ c h with z | z
    · exact a.newμ c z
    · by_cases hm : c ∈ μ
      · exact .inl hm
      · cases e : H c with
        | none => exact .inr rfl
        | some q => rw [a.keep c q e hm] at z; cases z
end

/-! ### statements -/
inductive Fl where
  | nx (ρ : Ev) | rt (u : U) | bk (ρ : Ev) | ct (ρ : Ev)
abbrev SemS := Ev → Sto → Out Fl
def SRun (K : PySem.W.Frag) (G : Tab) (W : WX) (n : Nat) (F : Hp) (μ : List Addr) (H : Hp) (r : Out Fl) (D : Ends) : Prop :=
  match r with
  | .ok (.nx ρ) S' => ∀ σ' H' F' μ', Ez n F μ H F' μ' H' → Rl K G F' μ' S' H' → EnvIs K G F' μ' σ' ρ → D.nx σ' H'
  | .ok (.rt u) S' => ∀ v H' F' μ', Ez n F μ H F' μ' H' → Rl K G F' μ' S' H' → IsU K G F' μ' v u → D.rt v H'
  | .ok (.bk ρ) S' => ∀ σ' H' F' μ', Ez n F μ H F' μ' H' → Rl K G F' μ' S' H' → EnvIs K G F' μ' σ' ρ → D.bk σ' H'
  | .ok (.ct ρ) S' => ∀ σ' H' F' μ', Ez n F μ H F' μ' H' → Rl K G F' μ' S' H' → EnvIs K G F' μ' σ' ρ → D.ct σ' H'
  | .exc x S' => ∀ cls dd σ' H' F' μ', Ez n F μ H F' μ' H' → Rl K G F' μ' S' H' → IsX K G F' H' cls dd x → W cls dd σ' H'
  | .bad => False
section
variable {K : PySem.W.Frag} {G : Tab} {W : WX} {n : Nat} {F F' H H' : Hp} {μ μ' : List Addr} {σ : L2.St}
theorem SRun.later {r : Out Fl} {D : Ends} (e : Ez n F μ H F' μ' H') (h : SRun K G W n F μ H r D) : SRun K G W n F' μ' H' r D := by
  cases r with
  | ok f S =>
    cases f with
    | nx ρ => exact fun σ' H2 F2 μ2 e2 R r => h σ' H2 F2 μ2 (e.trans e2) R r
    | rt ρ => exact fun σ' H2 F2 μ2 e2 R r => h σ' H2 F2 μ2 (e.trans e2) R r
    | bk ρ => exact fun σ' H2 F2 μ2 e2 R r => h σ' H2 F2 μ2 (e.trans e2) R r
    | ct ρ => exact fun σ' H2 F2 μ2 e2 R r => h σ' H2 F2 μ2 (e.trans e2) R r
  | exc x S => exact fun c d σ' H2 F2 μ2 e2 R r => h c d σ' H2 F2 μ2 (e.trans e2) R r
  | bad => exact h
/-- an expression ahead -/
theorem SRun.bindE {α β : Type} {rel : Hp → List Addr → β → α → Prop} {x : Out α} {k : α → Sto → Out Fl} {D : Ends} {Q' : β → Hp → Prop} (hn : n ≤ μ.length) (h : SRun K G W n F μ H (x.bind k) D)
    (step : ∀ a S' b F' μ' H', x = .ok a S' → Ex F μ H F' μ' H' → Rl K G F' μ' S' H' → rel F' μ' b a → n ≤ μ'.length → SRun K G W n F' μ' H' (k a S') D → Q' b H') : Run K G W σ F μ H rel x Q' := by
  cases x with
  | ok a S => exact fun b H' F' μ' e R r => step a S b F' μ' H' rfl e R r (e.ez hn).low (SRun.later (e.ez hn) h)
  | exc x S => exact fun c d H' F' μ' e R r => h c d σ H' F' μ' (e.ez hn) R r
  | bad => exact h
end
structure SS (X : Cx) (G : Tab) (W : WX) (n : Nat) (st : Stmt) (f : SemS) : Prop where
  ex : ∃ t : TS, PS X st t ∧ ∀ σ H ρ S F μ D, Rl X.K G F μ S H → EnvIs X.K G F μ σ ρ → n ≤ μ.length → SRun X.K G W n F μ H (f ρ S) D → t D σ H
structure SSs (X : Cx) (G : Tab) (W : WX) (n : Nat) (st : List Stmt) (f : SemS) : Prop where
  ex : ∃ t : TS, PSs X st t ∧ ∀ σ H ρ S F μ D, Rl X.K G F μ S H → EnvIs X.K G F μ σ ρ → n ≤ μ.length → SRun X.K G W n F μ H (f ρ S) D → t D σ H
def nilS : SemS := fun ρ S => .ok (.nx ρ) S
/-- g behind f -/
def thenS (o : Out Fl) (g : SemS) : Out Fl := match o with
  | .ok (.nx ρ) S => g ρ S
  | o => o
def seqS (f g : SemS) : SemS := fun ρ S => thenS (f ρ S) g
section
variable {X : Cx} {G : Tab} {W : WX} {n : Nat} {st : Stmt} {sts : List Stmt} {f g : SemS} {a b c e : Expr} {es : List Expr} {fa fb fc : SemE} {pos : Pos}
theorem SRun.then {K : PySem.W.Frag} {F H : Hp} {μ : List Addr} {o : Out Fl} {D : Ends} {N : L2.St → Hp → Prop} (h : SRun K G W n F μ H (thenS o g) D)
    (step : ∀ ρ S' σ' H' F' μ', Ez n F μ H F' μ' H' → Rl K G F' μ' S' H' → EnvIs K G F' μ' σ' ρ → SRun K G W n F' μ' H' (g ρ S') D → N σ' H') : SRun K G W n F μ H o { D with nx := N } := by
  cases o with
  | ok fl S =>
    cases fl with
    | nx ρ => exact fun σ' H' F' μ' e R E => step ρ S σ' H' F' μ' e R E (SRun.later e h)
    | rt u => exact h
    | bk ρ => exact h
    | ct ρ => exact h
  | exc x S => exact h
  | bad => exact h
theorem sss_nil : SSs X G W n [] nilS := ⟨_, pss_nil, fun σ H ρ S F μ D R E hn h => h σ H F μ (Ez.refl hn) R E⟩
theorem sss_cons (h1 : SS X G W n st f) (h2 : SSs X G W n sts g) : SSs X G W n (st :: sts) (seqS f g) := by
  obtain ⟨t1, p1, q1⟩ := h1.ex
  obtain ⟨t2, p2, q2⟩ := h2.ex
  refine ⟨_, pss_cons p1 p2, fun σ H ρ S F μ D R E hn h => ?_⟩
  exact q1 σ H ρ S F μ _ R E hn (SRun.then h fun ρ' S' σ' H' F' μ' e R' E' h' => q2 σ' H' ρ' S' F' μ' D R' E' e.low h')
theorem ss_pass : SS X G W n (.Pass pos) nilS := ⟨_, ps_pass, fun σ H ρ S F μ D R E hn h => h σ H F μ (Ez.refl hn) R E⟩
theorem ss_break : SS X G W n (.Break pos) (fun ρ S => .ok (.bk ρ) S) := ⟨_, ps_break, fun σ H ρ S F μ D R E hn h => h σ H F μ (Ez.refl hn) R E⟩
theorem ss_cont : SS X G W n (.Continue pos) (fun ρ S => .ok (.ct ρ) S) := ⟨_, ps_continue, fun σ H ρ S F μ D R E hn h => h σ H F μ (Ez.refl hn) R E⟩
def retS (f : SemE) : SemS := fun ρ S => (f ρ S).bind fun u S1 => .ok (.rt u) S1
theorem ss_ret (h : EE X G W e fa) : SS X G W n (.Return (some e) pos) (retS fa) := by
  obtain ⟨t, p, q⟩ := h.ex
  refine ⟨_, ps_ret p, fun σ H ρ S F μ D R E hn h => ?_⟩
  exact q σ H ρ S F μ _ R E (SRun.bindE hn h fun u S1 v F1 μ1 H1 _ e1 R1 r1 hn1 h1 => h1 v H1 F1 μ1 (Ez.refl hn1) R1 r1)
def setS (i : Nat) (f : SemE) : SemS := fun ρ S => (f ρ S).bind fun u S1 => .ok (.nx (ρ.set i (some u))) S1
theorem ss_set {i : Nat} {x : Str} {p' : Pos} (hN : X.N.Nodup) (hi : X.N[i]? = some x) (hx : Loc X.env.scope x) (hf : X.fn x = true ∨ X.env.scope.names.lookup x = some .local) (hs : compless e = true) (h : EE X G W e fa) :
    SS X G W n (.Assign [.Name x p'] e pos) (setS i fa) := by
  obtain ⟨t, p, q⟩ := h.ex
  refine ⟨_, ps_set hN hi hx p (swaps_c hs _ _ _) hf, fun σ H ρ S F μ D R E hn h => ?_⟩
  exact q σ H ρ S F μ _ R E (SRun.bindE hn h fun u S1 v F1 μ1 H1 _ e1 R1 r1 hn1 h1 => h1 _ H1 F1 μ1 (Ez.refl hn1) R1 ((E.mono e1).set r1 i))
def dropS (f : SemE) : SemS := fun ρ S => (f ρ S).bind fun _ S1 => .ok (.nx ρ) S1
theorem ss_expr (hs : compless e = true) (h : EE X G W e fa) : SS X G W n (.Expr e pos) (dropS fa) := by
  obtain ⟨t, p, q⟩ := h.ex
  refine ⟨_, ps_expr p (swaps_c hs _ _ _), fun σ H ρ S F μ D R E hn h => ?_⟩
  exact q σ H ρ S F μ _ R E (SRun.bindE hn h fun u S1 v F1 μ1 H1 _ e1 R1 r1 hn1 h1 => h1 _ H1 F1 μ1 (Ez.refl hn1) R1 (E.mono e1))
def ifS (t : SemT) (f g : SemS) : SemS := fun ρ S => (t ρ S).bind fun k S1 => if k = true then f ρ S1 else g ρ S1
theorem ss_if {t : SemT} {sa sb : List Stmt} (hc : ET X G W c t) (ha : SSs X G W n sa f) (hb : SSs X G W n sb g) : SS X G W n (.If c sa sb pos) (ifS t f g) := by
  obtain ⟨t0, p0, q0⟩ := hc.ex
  obtain ⟨t1, p1, q1⟩ := ha.ex
  obtain ⟨t2, p2, q2⟩ := hb.ex
  refine ⟨_, ps_if p0 p1 p2, fun σ H ρ S F μ D R E hn h => ?_⟩
  refine q0 σ H ρ S F μ _ R E (SRun.bindE hn h fun k S1 b F1 μ1 H1 _ e1 R1 r1 hn1 h1 => ?_)
  cases r1
  cases k with
  | true => rw [if_pos rfl]; exact q1 σ H1 ρ S1 F1 μ1 _ R1 (E.mono e1) hn1 h1
  | false => rw [if_neg Bool.false_ne_true]; exact q2 σ H1 ρ S1 F1 μ1 _ R1 (E.mono e1) hn1 h1

/-! ### targets -/
abbrev SemG := U → Ev → Option Ev
/-- σ' is σ but for the slots sl -/
def But (sl : List Nat) (σ σ' : L2.St) : Prop := ∀ vs : List Nat, (∀ i ∈ sl, i ∈ vs) → wipe σ' vs = wipe σ vs
theorem But.refl (sl : List Nat) (σ : L2.St) : But sl σ σ := fun _ _ => rfl
theorem But.trans {s1 s2 : List Nat} {σ σ' σ'' : L2.St} (a : But s1 σ σ') (b : But s2 σ' σ'') : But (s1 ++ s2) σ σ'' := fun vs h =>
  (b vs fun i hi => h i (List.mem_append_right _ hi)).trans (a vs fun i hi => h i (List.mem_append_left _ hi))
theorem wipe_set {σ : L2.St} {v : Option V} : ∀ {vs : List Nat} {i : Nat}, i ∈ vs → wipe (σ.set i v) vs = wipe σ vs
  | j :: vs, i, h => by
    unfold wipe
    by_cases e : i ∈ vs
    · rw [wipe_set e]
    · have e' : i = j := by
        rcases List.mem_cons.mp h with h | h
        · exact h
        · exact absurd h e
      subst e'
      have comm : ∀ vs : List Nat, i ∉ vs → wipe (σ.set i v) vs = (wipe σ vs).set i v := by
        intro vs
        induction vs with
        | nil => intro _; rfl
        | cons k ks ih =>
          intro hn
          unfold wipe
          rw [ih (fun z => hn (List.mem_cons_of_mem _ z)), List.set_comm _ _ (fun z => hn (by rw [z]; exact List.mem_cons_self))]
      rw [comm vs e, List.set_set]
structure EG (X : Cx) (G : Tab) (target : Expr) (g : SemG) (sl : List Nat) : Prop where
  ex : ∃ t : TG, PG X target t ∧ ∀ v u σ H ρ ρ' F μ S (Q : L2.St → Hp → Prop), Rl X.K G F μ S H → IsU X.K G F μ v u → EnvIs X.K G F μ σ ρ → g u ρ = some ρ' → (∀ σ', EnvIs X.K G F μ σ' ρ' → But sl σ σ' → Q σ' H) → t v σ H Q
abbrev SemGs := List D → Ev → Option Ev
structure EGs (X : Cx) (G : Tab) (ts : List Expr) (g : SemGs) (sl : List Nat) : Prop where
  ex : ∃ t : TGs, PGs X ts t ∧ ∀ vs ds σ H ρ ρ' F μ S (Q : L2.St → Hp → Prop), Rl X.K G F μ S H → IsDs X.K G F vs ds → EnvIs X.K G F μ σ ρ → g ds ρ = some ρ' → (∀ σ', EnvIs X.K G F μ σ' ρ' → But sl σ σ' → Q σ' H) → t vs σ H Q
theorem eg_name {i : Nat} {x : Str} (hN : X.N.Nodup) (hi : X.N[i]? = some x) (hx : Loc X.env.scope x) (hf : X.fn x = true ∨ X.env.scope.names.lookup x = some .local) : EG X G (.Name x pos) (fun u ρ => some (ρ.set i (some u))) [i] :=
  ⟨_, pg_name hN hi hx hf, fun v u σ H ρ ρ' F μ S Q R r E e q => by cases e; exact q _ (E.set r i) fun vs h => wipe_set (h i (by simp))⟩
def nilG : SemGs := fun ds ρ => match ds with
  | [] => some ρ
  | _ => none
def consG (g : SemG) (gs : SemGs) : SemGs := fun ds ρ => match ds with
  | d :: ds => (g (.d d) ρ).bind fun ρ1 => gs ds ρ1
  | [] => none
theorem egs_nil : EGs X G [] nilG [] := ⟨_, pgs_nil, fun vs ds σ H ρ ρ' F μ S Q R r E e q => by
  cases r with
  | nil => cases e; exact ⟨rfl, q _ E (But.refl _ _)⟩
  | cons _ _ => cases e⟩
theorem egs_cons {g : SemG} {gs : SemGs} {s1 s2 : List Nat} (h : EG X G e g s1) (hs : starless e = true) (h' : EGs X G es gs s2) : EGs X G (e :: es) (consG g gs) (s1 ++ s2) := by
  obtain ⟨t, p, q⟩ := h.ex
  obtain ⟨t', p', q'⟩ := h'.ex
  refine ⟨_, pgs_cons p p' (by rw [assignEach_c hs]; rfl), fun vs ds σ H ρ ρ' F μ S Q R r E e k => ?_⟩
  cases r with
  | nil => cases e
  | cons r1 rr =>
    simp only [consG, Option.bind_eq_some_iff] at e
    obtain ⟨ρ1, e1, e2⟩ := e
    exact ⟨_, _, rfl, q _ (.d _) σ H ρ ρ1 F μ S _ R r1 E e1 fun σ1 E1 b1 => q' _ _ σ1 H ρ1 ρ' F μ S Q R rr E1 e2 fun σ2 E2 b2 => k σ2 E2 (b1.trans b2)⟩
theorem assignEach_star {env : PySem.Env} : ∀ {es : List Expr}, es.all starless = true → (assignEach es env).length = es.length ∧ (assignEach es env).findIdx? (·.1) = none
  | [], _ => ⟨rfl, rfl⟩
  | e :: es, h => by
    simp only [List.all_cons, Bool.and_eq_true] at h
    obtain ⟨h1, h2⟩ := assignEach_star (env := env) h.2
    rw [assignEach_c h.1]
    exact ⟨by simp [h1], by rw [List.findIdx?_cons]; simp [h2]⟩
def tupG (n : Nat) (gs : SemGs) : SemG := fun u ρ => match u with
  | .d (.tup ds) => if ds.length = n then gs ds ρ else none
  | .d (.lst ds) => if ds.length = n then gs ds ρ else none
  | _ => none
theorem PG.or {target : Expr} {t t' : TG} (h : PG X target t) (h' : PG X target t') : PG X target (fun v σ H Q => t v σ H Q ∨ t' v σ H Q) :=
  ⟨fun pins s σ H v u Q I r q => q.elim (fun q => h.run pins s σ H v u Q I r q) fun q => h'.run pins s σ H v u Q I r q⟩
theorem eg_tup {k : Nat} {gs : SemGs} (hc : X.calm = true) {sl : List Nat} (h : EGs X G es gs sl) (hs : es.all starless = true) : EG X G (.Tuple es k pos) (tupG es.length gs) sl := by
  obtain ⟨t, p, q⟩ := h.ex
  obtain ⟨z1, z2⟩ := assignEach_star (env := X.env) hs
  refine ⟨_, PG.or (pg_tup hc p z1 z2) (pg_lst hc p z1 z2), fun v u σ H ρ ρ' F μ S Q R r E e k => ?_⟩
  unfold tupG at e
  split at e
  · rename_i ds
    split at e
    · rename_i hl
      cases r with
      | tup hq hs => exact .inl ⟨_, _, rfl, R.sub.seqT hq, by rw [hs.length]; exact hl, q _ _ σ H ρ ρ' F μ S Q R hs E e k⟩
    · cases e
  · rename_i ds
    split at e
    · rename_i hl
      cases r with
      | lst hq hs => exact .inr ⟨_, _, rfl, SqL.of (R.sub _ _ hq), by rw [hs.length]; exact hl, q _ _ σ H ρ ρ' F μ S Q R hs E e k⟩
    · cases e
  · cases e
def tupless : Expr → Bool
  | .Tuple .. => false
  | _ => true
theorem swapped_c {tg e : Expr} (h : tupless e = true) (env : PySem.Env) : swappedStores [tg] e env = pure none := by
  cases e <;> first | (cases h; done) | (cases tg <;> rfl)
def asgS (f : SemE) (g : SemG) : SemS := fun ρ S => (f ρ S).bind fun u S1 => match g u ρ with
  | some ρ' => .ok (.nx ρ') S1
  | none => .bad
theorem ss_asg {tg : Expr} {g : SemG} {sl : List Nat} (h : EE X G W e fa) (hg : EG X G tg g sl) (hs : compless e = true) (ht : tupless e = true) (hst : starless tg = true) : SS X G W n (.Assign [tg] e pos) (asgS fa g) := by
  obtain ⟨t, p, q⟩ := h.ex
  obtain ⟨t', p', q'⟩ := hg.ex
  refine ⟨_, ps_asg p p' (swaps_c hs _ _ _) (swapped_c ht _) (by rw [assignEach_c hst]; rfl), fun σ H ρ S F μ D R E hn h => ?_⟩
  refine q σ H ρ S F μ _ R E (SRun.bindE hn h fun u S1 v F1 μ1 H1 _ e1 R1 r1 hn1 h1 => ?_)
  split at h1
  · rename_i ρ' e2
    exact q' v u σ H1 ρ ρ' F1 μ1 S1 _ R1 r1 (E.mono e1) e2 fun σ' E' _ => h1 σ' H1 F1 μ1 (Ez.refl hn1) R1 E'
  · exact h1.elim
/-- a, b = x, y -/
def par2S (i j : Nat) (g : SemA) : SemS := fun ρ S => (g ρ S).bind fun us S1 => match us with
  | [u, w] => .ok (.nx ((ρ.set i (some u)).set j (some w))) S1
  | _ => .bad
theorem ss_par2 {i j : Nat} {x y : Str} {px py pt : Pos} {kt k2 : Nat} {pt2 : Pos} {ga : SemA} (hc : X.calm = true) (hN : X.N.Nodup) (hi : X.N[i]? = some x) (hj : X.N[j]? = some y) (hij : i ≠ j)
    (hx : X.env.scope.names.lookup x = some .local) (hy : X.env.scope.names.lookup y = some .local) (ha : EA X G W [a, b] ga)
    (hw : swappedStores [.Tuple [.Name x px, .Name y py] kt pt] (.Tuple [a, b] k2 pt2) X.env = pure (some [x, y])) : SS X G W n (.Assign [.Tuple [.Name x px, .Name y py] kt pt] (.Tuple [a, b] k2 pt2) pos) (par2S i j ga) := by
  obtain ⟨t, p, q⟩ := ha.ex
  refine ⟨_, ps_par hc hN hi hj hij hx hy p hw rfl, fun σ H ρ S F μ D R E hn h => ?_⟩
  refine q σ H ρ S F μ _ R E (SRun.bindE hn h fun us S1 vs F1 μ1 H1 _ e1 R1 r1 hn1 h1 => ?_)
  cases r1 with
  | nil => exact h1.elim
  | cons ra r1 =>
    cases r1 with
    | nil => exact h1.elim
    | cons rb r1 =>
      cases r1 with
      | nil => exact ⟨_, _, rfl, h1 _ H1 F1 μ1 (Ez.refl hn1) R1 (((E.mono e1).set ra i).set rb j)⟩
      | cons _ _ => exact h1.elim
end
end Pq

namespace Pq
open PySem PySem.Spec PyProof.Rows L2

/-! ### what is walked -/
/-- J walks the data ds, as long as what stood for good stands -/
structure ItIs (K : PySem.W.Frag) (G : Tab) (F : Hp) (J : It) (ds : List D) : Prop where
  go : ∀ i F2 H2, Same F F2 → Same F2 H2 → i < ds.length → J.go i H2
  stop : ∀ i F2 H2, Same F F2 → Same F2 H2 → ds.length ≤ i → J.stop i H2
  yld : ∀ i F2 H2 x H3 d, Same F F2 → Same F2 H2 → ds[i]? = some d → J.yld i H2 x H3 → (H3 = H2 ∧ IsD K G F2 x d) ∨ ∃ p o, H2 p = none ∧ H3 = upd H2 p o ∧ IsD K G (upd F2 p o) x d
theorem ItIs.mono {K : PySem.W.Frag} {G : Tab} {F F' : Hp} {J : It} {ds : List D} (h : ItIs K G F J ds) (e : Same F F') : ItIs K G F' J ds :=
  ⟨fun i F2 H2 a b c => h.go i F2 H2 (e.trans a) b c, fun i F2 H2 a b c => h.stop i F2 H2 (e.trans a) b c, fun i F2 H2 x H3 d a b c => h.yld i F2 H2 x H3 d (e.trans a) b c⟩
structure EI (X : Cx) (G : Tab) (W : WX) (tg e : Expr) (f : Ev → Sto → Out (List D)) : Prop where
  ex : ∃ wi : TI, PI X tg e wi ∧ ∀ σ H ρ S F μ R, Rl X.K G F μ S H → EnvIs X.K G F μ σ ρ → Run X.K G W σ F μ H (fun F' _ J ds => ItIs X.K G F' J ds) (f ρ S) R → wi σ H R
section
variable {X : Cx} {G : Tab} {W : WX} {tg a b c e : Expr} {es : List Expr} {fa fb fc : SemE} {pos : Pos}
theorem PI.or {w w' : TI} (h : PI X tg e w) (h' : PI X tg e w') : PI X tg e (fun σ H R => w σ H R ∨ w' σ H R) :=
  ⟨fun pins s σ H R I q => q.elim (fun q => h.run pins s σ H R I q) fun q => h'.run pins s σ H R I q⟩
theorem same_get {H : Hp} {F : Hp} (e : Same F H) {a : Addr} {o : HO} (h : F a = some o) : H a = some o := e _ _ h
theorem sq_one {K : PySem.W.Frag} {F F2 H2 : Hp} {p : Addr} {vs : List V} (h : F p = some (.lst vs)) (a : Same F F2) (b : Same F2 H2) {xs : List V} (q : ∀ ys, SqL K H2 p ys → ys[0]? = ys[0]?) : H2 p = some (.lst vs) := b _ _ (a _ _ h)
theorem it_list {K : PySem.W.Frag} {F : Hp} {p : Addr} {vs : List V} {ds : List D} (h : F p = some (.lst vs)) (hs : IsDs K G F vs ds) : ItIs K G F (Itl K p) ds where
  go := fun i F2 H2 a b c => by
    have hl := hs.length
    exact ⟨vs, vs[i]'(by omega), SqL.of (b _ _ (a _ _ h)), List.getElem?_eq_getElem _⟩
  stop := fun i F2 H2 a b c => ⟨vs, SqL.of (b _ _ (a _ _ h)), by rw [hs.length]; exact c⟩
  yld := fun i F2 H2 x H3 d a b c y => by
    obtain ⟨e, y⟩ := y
    obtain ⟨v, h1, h2⟩ := hs.get c
    have := y vs (SqL.of (b _ _ (a _ _ h)))
    rw [h1] at this
    cases this
    exact .inl ⟨e, h2.mono a⟩
theorem it_tup {K : PySem.W.Frag} {F : Hp} {p : Addr} {vs : List V} {ds : List D} (h : SqT K F p vs) (hs : IsDs K G F vs ds) : ItIs K G F (Itt K p) ds where
  go := fun i F2 H2 a b c => by
    have hl := hs.length
    exact ⟨vs, vs[i]'(by omega), b.seqT (a.seqT h), List.getElem?_eq_getElem _⟩
  stop := fun i F2 H2 a b c => ⟨vs, b.seqT (a.seqT h), by rw [hs.length]; exact c⟩
  yld := fun i F2 H2 x H3 d a b c y => by
    obtain ⟨e, y⟩ := y
    obtain ⟨v, h1, h2⟩ := hs.get c
    have := y vs (b.seqT (a.seqT h))
    rw [h1] at this
    cases this
    exact .inl ⟨e, h2.mono a⟩
theorem it_scr {K : PySem.W.Frag} {F : Hp} {p : Addr} {ns : List Int} (h : SqL K F p (ns.map V.int)) : ItIs K G F (Itl K p) (ns.map D.int) where
  go := fun i F2 H2 a b c => by
    rw [List.length_map] at c
    exact ⟨_, .int ns[i], b.seq (a.seq h), by rw [List.getElem?_map, List.getElem?_eq_getElem c]; rfl⟩
  stop := fun i F2 H2 a b c => ⟨_, b.seq (a.seq h), by rw [List.length_map] at c ⊢; exact c⟩
  yld := fun i F2 H2 x H3 d a b c y => by
    obtain ⟨e, y⟩ := y
    have := y _ (b.seq (a.seq h))
    rw [List.getElem?_map] at this c
    cases q : ns[i]? with
    | none => rw [q] at c; cases c
    | some n =>
      rw [q] at this c
      cases this; cases c
      exact .inl ⟨e, .int n⟩
def seqI (f : SemE) : Ev → Sto → Out (List D) := fun ρ S => (f ρ S).bind fun u S1 => match u with
  | .d (.lst ds) => .ok ds S1
  | .d (.tup ds) => .ok ds S1
  | .d (.scr ns) => .ok (ns.map .int) S1
  | _ => .bad
theorem ei_seq (h : EE X G W e fa) : EI X G W tg e (seqI fa) := by
  obtain ⟨t, p, q⟩ := h.ex
  refine ⟨_, PI.or (pi_list p) (pi_tup p), fun σ H ρ S F μ R Rr E h => ?_⟩
  -- which of the two: by what the value is
  cases ev : fa ρ S with
  | bad => unfold seqI at h; rw [ev] at h; exact h.elim
  | exc x S1 =>
    unfold seqI at h
    rw [ev] at h
    exact .inl (q σ H ρ S F μ _ Rr E (by rw [ev]; exact h))
  | ok u S1 =>
    unfold seqI at h
    rw [ev] at h
    simp only [Out.bind_ok] at h
    split at h
    · rename_i ds
      refine .inl (q σ H ρ S F μ _ Rr E (by
        rw [ev]
        intro v H1 F1 μ1 e1 R1 r1
        cases r1 with
        | lst hp hs => exact ⟨_, rfl, ⟨_, SqL.of (R1.sub _ _ hp)⟩, h _ _ _ _ e1 R1 (it_list hp hs)⟩))
    · rename_i ds
      refine .inr (q σ H ρ S F μ _ Rr E (by
        rw [ev]
        intro v H1 F1 μ1 e1 R1 r1
        cases r1 with
        | tup hp hs => exact ⟨_, rfl, ⟨_, R1.sub.seqT hp⟩, h _ _ _ _ e1 R1 (it_tup hp hs)⟩))
    · rename_i ns
      refine .inl (q σ H ρ S F μ _ Rr E (by
        rw [ev]
        intro v H1 F1 μ1 e1 R1 r1
        cases r1 with
        | scr hp => exact ⟨_, rfl, ⟨_, R1.sub.seq hp⟩, h _ _ _ _ e1 R1 (it_scr hp)⟩))
    · exact h.elim
/-- lo, lo + 1, .. -/
def upD (lo : Int) (n : Nat) : List D := (List.range n).map fun i => .int (lo + (i : Nat))
theorem it_range {K : PySem.W.Frag} {F : Hp} (lo : Int) (n : Nat) : ItIs K G F (Itr lo n) (upD lo n) where
  go := fun i F2 H2 a b c => (show i < n by simpa [upD] using c)
  stop := fun i F2 H2 a b c => (show n ≤ i by simpa [upD] using c)
  yld := fun i F2 H2 x H3 d a b c y => by
    obtain ⟨e, rfl⟩ := y
    have hi : i < n := by
      have := (List.getElem?_eq_some_iff.mp c).1
      simpa [upD] using this
    simp only [upD, List.getElem?_map, List.getElem?_range hi, Option.map_some, Option.some.injEq] at c
    subst c
    exact .inl ⟨e, .int _⟩
def okR (i : Int) : Bool := decide (-1000000000000 < i ∧ i < 1000000000000)
def range1I (g : SemA) : Ev → Sto → Out (List D) := fun ρ S => (g ρ S).bind fun us S1 => match us with
  | [u] => match view S1 u with
    | .int j => if okR j = true then .ok (upD 0 j.toNat) S1 else .bad
    | _ => .bad
  | _ => .bad
def range2I (g : SemA) : Ev → Sto → Out (List D) := fun ρ S => (g ρ S).bind fun us S1 => match us with
  | [u, w] => match view S1 u, view S1 w with
    | .int i, .int j => if okR i = true ∧ okR j = true then .ok (upD i (j - i).toNat) S1 else .bad
    | _, _ => .bad
  | _ => .bad
theorem okR_b {i : Int} (h : okR i = true) : -(2 ^ 62) ≤ i ∧ i < 2 ^ 62 := by
  have := of_decide_eq_true h
  omega
theorem ei_range1 {p : Pos} {ga : SemA} (hg : Gl X "range") (hm : X.mg "range" = none) (ha : EA X G W [a] ga) (hs : starless a = true) : EI X G W tg (.Call (.Name "range" p) [a] [] pos) (range1I ga) := by
  obtain ⟨t, pa, q⟩ := ha.ex
  refine ⟨_, pi_range1 hg hm pa (by rw [starEach_c hs]; rfl), fun σ H ρ S F μ R Rr E h => ?_⟩
  refine q σ H ρ S F μ _ Rr E (Run.bind h fun us S1 vs F1 μ1 H1 _ e1 R1 r1 h1 => ?_)
  split at h1
  · rename_i u
    cases r1 with
    | cons r r1 =>
      cases r1
      split at h1
      · rename_i j e2
        split at h1
        · rename_i hj
          obtain ⟨b1, b2⟩ := okR_b hj
          exact ⟨j, by rw [view_int r e2], b1, b2, Run.now h1 R1 (it_range 0 j.toNat)⟩
        · exact h1.elim
      · exact h1.elim
  · exact h1.elim
theorem ei_range2 {p : Pos} {ga : SemA} (hg : Gl X "range") (hm : X.mg "range" = none) (ha : EA X G W [a, b] ga) (hs : starless a = true) (hs2 : starless b = true) : EI X G W tg (.Call (.Name "range" p) [a, b] [] pos) (range2I ga) := by
  obtain ⟨t, pa, q⟩ := ha.ex
  refine ⟨_, pi_range2 hg hm pa (by rw [starEach_c hs, starEach_c hs2]; rfl) (by rw [starEach_c hs2]; rfl), fun σ H ρ S F μ R Rr E h => ?_⟩
  refine q σ H ρ S F μ _ Rr E (Run.bind h fun us S1 vs F1 μ1 H1 _ e1 R1 r1 h1 => ?_)
  split at h1
  · rename_i u w
    cases r1 with
    | cons r r1 =>
      cases r1 with
      | cons r' r1 =>
        cases r1
        split at h1
        · rename_i i j e2 e3
          split at h1
          · rename_i hj
            obtain ⟨b1, b2⟩ := okR_b hj.1
            obtain ⟨b3, b4⟩ := okR_b hj.2
            exact ⟨i, j, by rw [view_int r e2, view_int r' e3], ⟨b1, b2, b3, b4⟩, Run.now h1 R1 (it_range i _)⟩
          · exact h1.elim
        · exact h1.elim
  · exact h1.elim
/-- pairs, item by item -/
def zipD (xs ys : List D) : List D := List.zipWith (fun x y => .tup [x, y]) xs ys
theorem zipD_get {xs ys : List D} {i : Nat} {d : D} (h : (zipD xs ys)[i]? = some d) : ∃ x y, xs[i]? = some x ∧ ys[i]? = some y ∧ d = .tup [x, y] := by
  unfold zipD at h
  rw [List.getElem?_zipWith] at h
  cases e1 : xs[i]? <;> cases e2 : ys[i]? <;> rw [e1, e2] at h <;> simp at h
  exact ⟨_, _, rfl, rfl, h.symm⟩
theorem pair_new {K : PySem.W.Frag} {F2 H2 : Hp} {T : Addr} {v w : V} {x y : D} (b : Same F2 H2) (hT : H2 T = none) (h1 : IsD K G F2 v x) (h2 : IsD K G F2 w y) : IsD K G (upd F2 T (.tup [v, w])) (.ref T) (.tup [x, y]) := by
  have hF : F2 T = none := by
    cases e : F2 T with
    | none => rfl
    | some o => rw [b _ _ e] at hT; cases hT
  exact .tup (SqT.of upd_same) (.cons (h1.mono (same_new hF)) (.cons (h2.mono (same_new hF)) .nil))
theorem it_zipL {K : PySem.W.Frag} {F : Hp} {p q : Addr} {vs ws : List V} {xs ys : List D} (h : F p = some (.lst vs)) (hs : IsDs K G F vs xs) (h' : F q = some (.lst ws)) (hs' : IsDs K G F ws ys) : ItIs K G F (Itz K p q) (zipD xs ys) where
  go := fun i F2 H2 a b c => by
    have l1 := hs.length
    have l2 := hs'.length
    simp only [zipD, List.length_zipWith] at c
    exact ⟨vs, ws, vs[i]'(by omega), ws[i]'(by omega), SqL.of (b _ _ (a _ _ h)), SqL.of (b _ _ (a _ _ h')), List.getElem?_eq_getElem _, List.getElem?_eq_getElem _⟩
  stop := fun i F2 H2 a b c => by
    have l1 := hs.length
    have l2 := hs'.length
    simp only [zipD, List.length_zipWith] at c
    exact ⟨vs, ws, SqL.of (b _ _ (a _ _ h)), SqL.of (b _ _ (a _ _ h')), by omega⟩
  yld := fun i F2 H2 x H3 d a b c y => by
    obtain ⟨T, v, w, rfl, hT, rfl, y1, y2⟩ := y
    obtain ⟨x, y, c1, c2, rfl⟩ := zipD_get c
    obtain ⟨v', g1, g2⟩ := hs.get c1
    obtain ⟨w', g3, g4⟩ := hs'.get c2
    have z1 := y1 _ (SqL.of (b _ _ (a _ _ h)))
    have z2 := y2 _ (SqL.of (b _ _ (a _ _ h')))
    rw [g1] at z1; rw [g3] at z2
    cases z1; cases z2
    exact .inr ⟨T, _, hT, rfl, pair_new b hT (g2.mono a) (g4.mono a)⟩
theorem it_zipT {K : PySem.W.Frag} {F : Hp} {p q : Addr} {vs ws : List V} {xs ys : List D} (h : SqT K F p vs) (hs : IsDs K G F vs xs) (h' : SqT K F q ws) (hs' : IsDs K G F ws ys) : ItIs K G F (RZ.ItzT K p q) (zipD xs ys) where
  go := fun i F2 H2 a b c => by
    have l1 := hs.length
    have l2 := hs'.length
    simp only [zipD, List.length_zipWith] at c
    exact ⟨vs, ws, vs[i]'(by omega), ws[i]'(by omega), b.seqT (a.seqT h), b.seqT (a.seqT h'), List.getElem?_eq_getElem _, List.getElem?_eq_getElem _⟩
  stop := fun i F2 H2 a b c => by
    have l1 := hs.length
    have l2 := hs'.length
    simp only [zipD, List.length_zipWith] at c
    exact ⟨vs, ws, b.seqT (a.seqT h), b.seqT (a.seqT h'), by omega⟩
  yld := fun i F2 H2 x H3 d a b c y => by
    obtain ⟨T, v, w, rfl, hT, rfl, y1, y2⟩ := y
    obtain ⟨x, y, c1, c2, rfl⟩ := zipD_get c
    obtain ⟨v', g1, g2⟩ := hs.get c1
    obtain ⟨w', g3, g4⟩ := hs'.get c2
    have z1 := y1 _ (b.seqT (a.seqT h))
    have z2 := y2 _ (b.seqT (a.seqT h'))
    rw [g1] at z1; rw [g3] at z2
    cases z1; cases z2
    exact .inr ⟨T, _, hT, rfl, pair_new b hT (g2.mono a) (g4.mono a)⟩
def zipI (g : SemA) : Ev → Sto → Out (List D) := fun ρ S => (g ρ S).bind fun us S1 => match us with
  | [.d (.lst xs), .d (.lst ys)] => .ok (zipD xs ys) S1
  | [.d (.tup xs), .d (.tup ys)] => .ok (zipD xs ys) S1
  | _ => .bad
theorem ei_zip {p tpos : Pos} {ga : SemA} {elts : List Expr} {kk : Nat} (hg : Gl X "zip") (hm : X.mg "zip" = none) (ha : EA X G W [a, b] ga) (hs : starless a = true) (hs2 : starless b = true) : EI X G W (.Tuple elts kk tpos) (.Call (.Name "zip" p) [a, b] [] pos) (zipI ga) := by
  obtain ⟨t, pa, q⟩ := ha.ex
  refine ⟨_, RZ.pi_zipA hg hm pa (by rw [starEach_c hs]) (starless_any (by simp [hs2])), fun σ H ρ S F μ R Rr E h => ?_⟩
  refine q σ H ρ S F μ _ Rr E (Run.bind h fun us S1 vs F1 μ1 H1 _ e1 R1 r1 h1 => ?_)
  split at h1
  · cases r1 with
    | cons r r1 =>
      cases r1 with
      | cons r' r1 =>
        cases r1
        cases r with
        | lst hp hs =>
          cases r' with
          | lst hp' hs' => exact ⟨_, _, _, _, rfl, .inl ⟨SqL.of (R1.sub _ _ hp), SqL.of (R1.sub _ _ hp'), Run.now h1 R1 (it_zipL hp hs hp' hs')⟩⟩
  · cases r1 with
    | cons r r1 =>
      cases r1 with
      | cons r' r1 =>
        cases r1
        cases r with
        | tup hp hs =>
          cases r' with
          | tup hp' hs' => exact ⟨_, _, _, _, rfl, .inr ⟨R1.sub.seqT hp, R1.sub.seqT hp', Run.now h1 R1 (it_zipT hp hs hp' hs')⟩⟩
  · exact h1.elim

/-! ### for -/
def forL (tg : SemG) (body : SemS) : List D → SemS
  | [] => nilS
  | d :: ds => fun ρ S => match tg (.d d) ρ with
    | none => .bad
    | some ρ1 => match body ρ1 S with
      | .ok (.nx ρ2) S2 => forL tg body ds ρ2 S2
      | .ok (.ct ρ2) S2 => forL tg body ds ρ2 S2
      | .ok (.bk ρ2) S2 => .ok (.nx ρ2) S2
      | o => o
def forS (it : Ev → Sto → Out (List D)) (tg : SemG) (body : SemS) : SemS := fun ρ S => (it ρ S).bind fun ds S1 => forL tg body ds ρ S1
theorem ss_for {sl : List Nat} {n : Nat} {body : List Stmt} {f : Ev → Sto → Out (List D)} {g : SemG} {fb : SemS} (hp : PassesOwn (model X.prog X.w) X.A X.env X.xe) (hc : X.calm = true) (hi : EI X G W tg e f) (hg : EG X G tg g sl) (hb : SSs X G W n body fb) (hs : setless e = true) :
    SS X G W n (.For tg e body [] pos) (forS f g fb) := by
  obtain ⟨wi, pi, qi⟩ := hi.ex
  obtain ⟨tg', pg, qg⟩ := hg.ex
  obtain ⟨tb, pb, qb⟩ := hb.ex
  refine ⟨_, ps_for hp hc pi pg pb (folded_c hs _), fun σ H ρ S F μ D R E hn h => ?_⟩
  refine qi σ H ρ S F μ _ R E (SRun.bindE hn h fun ds S1 J F1 μ1 H1 _ e1 R1 it hn1 h1 => ?_)
  refine ⟨fun i m σ H => m = ds.length - i ∧ i ≤ ds.length ∧ ∃ ρ S F μ, Same F1 F ∧ Rl X.K G F μ S H ∧ EnvIs X.K G F μ σ ρ ∧ n ≤ μ.length ∧ SRun X.K G W n F μ H (forL g fb (ds.drop i) ρ S) D,
    ⟨ds.length, by simp, Nat.zero_le _, ρ, S1, F1, μ1, Same.refl _, R1, E.mono e1, hn1, h1⟩, ?_⟩
  rintro i m σ2 H2 ⟨rfl, hi, ρ2, S2, F2, μ2, sF, R2, E2, hn2, h2⟩
  by_cases hlt : i < ds.length
  · refine .inr ⟨it.go i F2 H2 sF R2.sub hlt, fun σ' H' => ∃ ρ S F μ, Same F1 F ∧ Rl X.K G F μ S H' ∧ EnvIs X.K G F μ σ' ρ ∧ n ≤ μ.length ∧ SRun X.K G W n F μ H' (forL g fb (ds.drop (i + 1)) ρ S) D,
      fun σ' H' q => ⟨ds.length - (i + 1), by omega, rfl, hlt, q⟩, fun x H3 hy => ?_⟩
    have hd : ds[i]? = some ds[i] := List.getElem?_eq_getElem hlt
    have hdrop : ds.drop i = ds[i] :: ds.drop (i + 1) := List.drop_eq_getElem_cons hlt
    rw [hdrop] at h2
    -- the state behind the item
    obtain ⟨F3, e3, R3, r3⟩ : ∃ F3, Ex F2 μ2 H2 F3 μ2 H3 ∧ Rl X.K G F3 μ2 S2 H3 ∧ IsD X.K G F3 x ds[i] := by
      rcases it.yld i F2 H2 x H3 ds[i] sF R2.sub hd hy with ⟨rfl, r⟩ | ⟨p, o, hp, rfl, r⟩
      · exact ⟨F2, Ex.refl _ _ _, R2, r⟩
      · exact ⟨_, Ex.anew R2 hp, R2.anew hp, r⟩
    have h3 := SRun.later (e3.ez hn2) h2
    have E3 := E2.mono e3
    unfold forL at h3
    cases q1 : g (.d ds[i]) ρ2 with
    | none => rw [q1] at h3; exact h3.elim
    | some ρ3 =>
      rw [q1] at h3
      refine qg x (.d ds[i]) σ2 H3 ρ2 ρ3 F3 μ2 S2 _ R3 r3 E3 q1 fun σ3 E4 _ => ?_
      refine qb σ3 H3 ρ3 S2 F3 μ2 _ R3 E4 hn2 ?_
      dsimp only at h3
      cases q2 : fb ρ3 S2 with
      | ok fl S4 =>
        rw [q2] at h3
        cases fl with
        | nx ρ4 => exact fun σ5 H5 F5 μ5 e5 R5 E5 => ⟨ρ4, S4, F5, μ5, (sF.trans e3.fr).trans e5.fr, R5, E5, e5.low, SRun.later e5 h3⟩
        | ct ρ4 => exact fun σ5 H5 F5 μ5 e5 R5 E5 => ⟨ρ4, S4, F5, μ5, (sF.trans e3.fr).trans e5.fr, R5, E5, e5.low, SRun.later e5 h3⟩
        | bk ρ4 => exact fun σ5 H5 F5 μ5 e5 R5 E5 => h3 σ5 H5 F5 μ5 e5 R5 E5
        | rt u => exact h3
      | exc x S4 => rw [q2] at h3; exact h3
      | bad => rw [q2] at h3; exact h3
  · have hi' : i = ds.length := by omega
    subst hi'
    refine .inl ⟨it.stop _ F2 H2 sF R2.sub (Nat.le_refl _), ?_⟩
    rw [List.drop_length] at h2
    exact h2 σ2 H2 F2 μ2 (Ez.refl hn2) R2 E2

/-! ### while -/
def whileL (t : SemT) (body : SemS) : Nat → SemS
  | 0 => fun _ _ => .bad
  | m + 1 => fun ρ S => (t ρ S).bind fun k S1 => if k = true then (match body ρ S1 with
      | .ok (.nx ρ2) S2 => whileL t body m ρ2 S2
      | .ok (.ct ρ2) S2 => whileL t body m ρ2 S2
      | .ok (.bk ρ2) S2 => .ok (.nx ρ2) S2
      | o => o) else .ok (.nx ρ) S1
theorem ss_while {n : Nat} (m : Nat) {body : List Stmt} {t : SemT} {fb : SemS} (hp : PassesOwn (model X.prog X.w) X.A X.env X.xe) (hc : ET X G W c t) (hb : SSs X G W n body fb) : SS X G W n (.While c body [] pos) (whileL t fb m) := by
  obtain ⟨tc, pc, qc⟩ := hc.ex
  obtain ⟨tb, pb, qb⟩ := hb.ex
  refine ⟨_, ps_while hp pc pb, fun σ H ρ S F μ D R E hn h => ?_⟩
  refine ⟨fun m σ H => ∃ ρ S F μ, Rl X.K G F μ S H ∧ EnvIs X.K G F μ σ ρ ∧ n ≤ μ.length ∧ SRun X.K G W n F μ H (whileL t fb m ρ S) D, ⟨m, ρ, S, F, μ, R, E, hn, h⟩, ?_⟩
  rintro m σ2 H2 ⟨ρ2, S2, F2, μ2, R2, E2, hn2, h2⟩
  cases m with
  | zero => exact h2.elim
  | succ m =>
    refine qc σ2 H2 ρ2 S2 F2 μ2 _ R2 E2 (SRun.bindE hn2 h2 fun k S3 b F3 μ3 H3 _ e3 R3 r3 hn3 h3 => ?_)
    cases r3
    cases k with
    | false => rw [if_neg Bool.false_ne_true]; exact h3 σ2 H3 F3 μ3 (Ez.refl hn3) R3 (E2.mono e3)
    | true =>
      rw [if_pos rfl]
      refine ⟨fun σ' H' => ∃ ρ S F μ, Rl X.K G F μ S H' ∧ EnvIs X.K G F μ σ' ρ ∧ n ≤ μ.length ∧ SRun X.K G W n F μ H' (whileL t fb m ρ S) D, fun σ' H' q => ⟨m, Nat.lt_succ_self _, q⟩, ?_⟩
      refine qb σ2 H3 ρ2 S3 F3 μ3 _ R3 (E2.mono e3) hn3 ?_
      rw [if_pos rfl] at h3
      cases q2 : fb ρ2 S3 with
      | ok fl S4 =>
        rw [q2] at h3
        cases fl with
        | nx ρ4 => exact fun σ5 H5 F5 μ5 e5 R5 E5 => ⟨ρ4, S4, F5, μ5, R5, E5, e5.low, SRun.later e5 h3⟩
        | ct ρ4 => exact fun σ5 H5 F5 μ5 e5 R5 E5 => ⟨ρ4, S4, F5, μ5, R5, E5, e5.low, SRun.later e5 h3⟩
        | bk ρ4 => exact fun σ5 H5 F5 μ5 e5 R5 E5 => h3 σ5 H5 F5 μ5 e5 R5 E5
        | rt u => exact h3
      | exc x S4 => rw [q2] at h3; exact h3
      | bad => rw [q2] at h3; exact h3
end
end Pq

namespace Pq
open PySem PySem.Spec PyProof.Rows L2
section
variable {X : Cx} {G : Tab} {W : WX} {tg a b c e o : Expr} {es : List Expr} {fa fb fc fo : SemE} {ga : SemA} {pos apos cpos : Pos}

/-! ### methods of lists -/
theorem attrBase_c {o : Expr} (h : (match o with | .Call (.Name _ _) [] [] _ => false | _ => true) = true) (m : Str) (env : PySem.Env) (w : Sem Value) : attributeBase o m env w = w := by
  unfold attributeBase
  split at h
  · cases h
  · rename_i hn
    split
    · rename_i id p q
      exact absurd rfl (hn _ _ _)
    · rfl
def callless : Expr → Bool
  | .Call .. => false
  | _ => true
theorem attrBase_ok {o : Expr} (h : callless o = true) (m : Str) (env : PySem.Env) (w : Sem Value) : attributeBase o m env w = w := by
  cases o <;> first | (cases h; done) | rfl
theorem starless_all {pos : Pos} {env : PySem.Env} : ∀ {es : List Expr}, es.all starless = true → (backTo pos (starEach es env)).all (fun x => !x.1) = true
  | [], _ => rfl
  | e :: es, h => by
    simp only [List.all_cons, Bool.and_eq_true] at h
    rw [starEach_c h.1]
    have := starless_all (pos := pos) (env := env) h.2
    unfold backTo at this ⊢
    simpa using this
/-- a method's rule r, by values, answers as g says -/
def MethOk (X : Cx) (G : Tab) (T : String) (r : V → List V → Hp → VK → Prop) (g : Sto → U → List U → Out U) : Prop :=
  ∀ (W : WX) σ F μ S H v vs u us (Q : VK), Rl X.K G F μ S H → IsU X.K G F μ v u → IsUs X.K G F μ vs us → Run X.K G W σ F μ H (IsU X.K G) (g S u us) Q → r v vs H Q
/-- what the receiver is -/
def TyOk (T : String) (S : Sto) (u : U) : Bool := match view S u with
  | .lst _ => T == "list"
  | .dct _ _ => T == "dict"
  | .str _ => T == "str"
  | _ => false
theorem tyV_of {F H : Hp} {μ : List Addr} {S : Sto} {v : V} {u : U} {T : String} (R : Rl X.K G F μ S H) (r : IsU X.K G F μ v u) (h : TyOk T S u = true) (hd : ∀ ks ds, view S u = .dct ks ds → ∃ k, u = .r k) : tyV X.K T v H := by
  unfold TyOk at h
  split at h
  · rename_i xs e
    obtain ⟨p, vs, rfl, hp, hs⟩ := view_lst R r e
    exact .inl ⟨by simpa using h, vs, SqL.of hp⟩
  · rename_i ks ds e
    obtain ⟨k, rfl⟩ := hd _ _ e
    obtain ⟨a, h1, rfl⟩ := r
    rw [view_r] at e
    cases es : S[k]? with
    | none => rw [es] at e; cases e
    | some o =>
      rw [es] at e
      cases o with
      | dead => cases e
      | lst ds' => cases e
      | dct kvs =>
        obtain ⟨_, kws, q, hk, hs⟩ := R.obj k a _ h1 es (by intro z; cases z)
        exact .inr (.inr (.inl ⟨by simpa using h, .inl ⟨_, q⟩⟩))
  · rename_i x e
    obtain rfl := view_str r e
    exact (by simpa using h : T = "str")
  · cases h
def methS (T : String) (fo : SemE) (ga : SemA) (g : Sto → U → List U → Out U) : SemE := fun ρ S => (fo ρ S).bind fun u S1 => if TyOk T S1 u = true ∧ T ≠ "dict" then (ga ρ S1).bind fun us S2 => g S2 u us else .bad
variable {name : Str} {T id : String} {r : V → List V → Hp → VK → Prop} {g : Sto → U → List U → Out U}
theorem ee_meth (pa : PlainAttrs T) (slot : Slot T name id) (hty : typeOf (.builtin id) = pure (.type "method_descriptor")) (hm : MtR X id r) (hg : MethOk X G T r g) (ho : EE X G W o fo) (ha : EA X G W (e :: es) ga)
    (hb : callless o = true) (hs : (e :: es).all starless = true) (hl : (e :: es).length < 20) (hline : (apos.endLine == cpos.line) = true) : EE X G W (.Call (.Attribute o name apos) (e :: es) [] cpos) (methS T fo ga g) := by
  obtain ⟨to, po, qo⟩ := ho.ex
  obtain ⟨t, p, q⟩ := ha.ex
  have hs' := hs
  simp only [List.all_cons, Bool.and_eq_true] at hs'
  refine ⟨_, pe_bm pa slot hty hm po p (attrBase_ok hb _ _ _) (by
    rw [starless_all hs]
    simp only [backToKw, keywordEach, List.map_nil, List.all_nil, Bool.true_and, decide_eq_true_eq, List.length_nil, List.isEmpty_nil, if_true]
    omega) hline (starEach_c hs'.1 _ _) (starless_any hs'.2), fun σ H ρ S F μ Q R E h => ?_⟩
  refine qo σ H ρ S F μ _ R E (Run.bind h fun u S1 v F1 μ1 H1 zq1 e1 R1 r1 h1 => ?_)
  split at h1
  · rename_i ht
    refine ⟨tyV_of R1 r1 ht.1 (fun ks ds e => ?_), q σ H1 ρ S1 F1 μ1 _ R1 (E.mono e1) (Run.bind h1 fun us S2 vs F2 μ2 H2 zq2 e2 R2 r2 h2 => hg W σ F2 μ2 S2 H2 v vs u us Q R2 (r1.mono e2) r2 h2)⟩
    unfold TyOk at ht
    rw [e] at ht
    exact absurd (by simpa using ht.1) ht.2
  · exact h1.elim
theorem ee_meth0 (pa : PlainAttrs T) (slot : Slot T name id) (hty : typeOf (.builtin id) = pure (.type "method_descriptor")) (hm : MtR X id r) (hg : MethOk X G T r g) (ho : EE X G W o fo)
    (hb : callless o = true) (hline : (apos.endLine == cpos.line) = true) : EE X G W (.Call (.Attribute o name apos) [] [] cpos) (methS T fo nilA g) := by
  obtain ⟨to, po, qo⟩ := ho.ex
  refine ⟨_, pe_bm0 pa slot hty hm po (attrBase_ok hb _ _ _) hline, fun σ H ρ S F μ Q R E h => ?_⟩
  refine qo σ H ρ S F μ _ R E (Run.bind h fun u S1 v F1 μ1 H1 zq1 e1 R1 r1 h1 => ?_)
  split at h1
  · rename_i ht
    refine ⟨tyV_of R1 r1 ht.1 (fun ks ds e => ?_), hg W σ F1 μ1 S1 H1 v [] u [] Q R1 r1 .nil h1⟩
    unfold TyOk at ht
    rw [e] at ht
    exact absurd (by simpa using ht.1) ht.2
  · exact h1.elim
/-- a changing list -/
def onR (S : Sto) (u : U) (k : Nat → List D → Out U) : Out U := match u with
  | .r i => match S[i]? with
    | some (.lst ds) => k i ds
    | _ => .bad
  | _ => .bad
theorem onR_of {F H : Hp} {μ : List Addr} {S : Sto} {σ : L2.St} {v : V} {u : U} {k : Nat → List D → Out U} {Q : VK} (R : Rl X.K G F μ S H) (r : IsU X.K G F μ v u) (h : Run X.K G W σ F μ H (IsU X.K G) (onR S u k) Q) :
    ∃ i ds p vs, u = .r i ∧ v = .ref p ∧ S[i]? = some (.lst ds) ∧ μ[i]? = some p ∧ H p = some (.lst vs) ∧ IsDs X.K G F vs ds ∧ Run X.K G W σ F μ H (IsU X.K G) (k i ds) Q := by
  unfold onR at h
  split at h
  · rename_i i
    obtain ⟨p, h1, rfl⟩ := r
    split at h
    · rename_i ds e
      obtain ⟨_, vs, q, hs⟩ := R.obj i p _ h1 e (by intro z; cases z)
      exact ⟨i, ds, p, vs, rfl, rfl, e, h1, q, hs, h⟩
    · exact h.elim
  · exact h.elim
theorem mem_get {μ : List Addr} {i : Nat} {p : Addr} (h : μ[i]? = some p) : p ∈ μ := List.mem_of_getElem? h
def appendS (S : Sto) (u : U) (us : List U) : Out U := onR S u fun i ds => match us with
  | [.d x] => if ds.length < 16777216 then .ok (.d .non) (S.set i (.lst (ds ++ [x]))) else .bad
  | _ => .bad
theorem append_ok : MethOk X G "list" rAppend appendS := by
  intro W σ F μ S H v vs u us Q R r rs h
  obtain ⟨i, ds, p, ws, rfl, rfl, e, hμ, hp, hs, h⟩ := onR_of R r h
  try dsimp only at h
  split at h
  · rename_i x
    cases rs with
    | cons rx rs =>
      cases rs
      split at h
      · rename_i hl
        exact ⟨p, ws, _, rfl, rfl, hp, by rw [hs.length, ← lim_eq]; exact hl, h _ _ _ _ (Ex.set R (mem_get hμ)) (R.set hμ e (by intro z; cases z) ⟨_, upd_same, hs.append (.cons rx .nil)⟩) IsD.non⟩
      · exact h.elim
  · exact h.elim
def extendS (S : Sto) (u : U) (us : List U) : Out U := onR S u fun i ds => match us with
  | [.d (.lst xs)] => if ds.length + xs.length ≤ 16777216 then .ok (.d .non) (S.set i (.lst (ds ++ xs))) else .bad
  | _ => .bad
theorem extend_ok : MethOk X G "list" rExtend extendS := by
  intro W σ F μ S H v vs u us Q R r rs h
  obtain ⟨i, ds, p, ws, rfl, rfl, e, hμ, hp, hs, h⟩ := onR_of R r h
  try dsimp only at h
  split at h
  · rename_i x
    cases rs with
    | cons rx rs =>
      cases rs
      cases rx with
      | lst hb hx =>
        split at h
        · rename_i hl
          exact ⟨p, _, ws, _, rfl, rfl, hp, R.sub _ _ hb, by rw [hs.length, hx.length, ← lim_eq]; exact hl, h _ _ _ _ (Ex.set R (mem_get hμ)) (R.set hμ e (by intro z; cases z) ⟨_, upd_same, hs.append hx⟩) IsD.non⟩
        · exact h.elim
  · exact h.elim
def reverseS (S : Sto) (u : U) (us : List U) : Out U := onR S u fun i ds => .ok (.d .non) (S.set i (.lst ds.reverse))
theorem mt_reverse' : MtR X "list.reverse" rReverse := mt_reverse
theorem reverse_ok : MethOk X G "list" (fun v vs H Q => rReverse v [] H Q) reverseS := by
  intro W σ F μ S H v vs u us Q R r rs h
  obtain ⟨i, ds, p, ws, rfl, rfl, e, hμ, hp, hs, h⟩ := onR_of R r h
  exact ⟨p, ws, rfl, rfl, hp, h _ _ _ _ (Ex.set R (mem_get hμ)) (R.set hμ e (by intro z; cases z) ⟨_, upd_same, hs.reverse⟩) IsD.non⟩
theorem IsDs.eraseIdx {K : PySem.W.Frag} {F : Hp} : ∀ {vs : List V} {ds : List D} (i : Nat), IsDs K G F vs ds → IsDs K G F (vs.eraseIdx i) (ds.eraseIdx i)
  | _, _, _, .nil => .nil
  | _, _, 0, .cons _ t => t
  | _, _, i + 1, .cons h t => .cons h (IsDs.eraseIdx i t)
theorem IsDs.dropLast {K : PySem.W.Frag} {F : Hp} {vs : List V} {ds : List D} (h : IsDs K G F vs ds) : IsDs K G F vs.dropLast ds.dropLast := by
  rw [List.dropLast_eq_take, List.dropLast_eq_take, h.length]
  exact h.take _
def popS (S : Sto) (u : U) (us : List U) : Out U := onR S u fun i ds => match ds[ds.length - 1]? with
  | some y => .ok (.d y) (S.set i (.lst ds.dropLast))
  | none => .bad
theorem pop_ok : MethOk X G "list" (fun v vs H Q => rPop v [] H Q) popS := by
  intro W σ F μ S H v vs u us Q R r rs h
  obtain ⟨i, ds, p, ws, rfl, rfl, e, hμ, hp, hs, h⟩ := onR_of R r h
  try dsimp only at h
  split at h
  · rename_i y ey
    obtain ⟨w, h1, h2⟩ := hs.get ey
    exact ⟨p, ws, w, rfl, rfl, hp, by rw [hs.length]; exact h1, h _ _ _ _ (Ex.set R (mem_get hμ)) (R.set hμ e (by intro z; cases z) ⟨_, upd_same, hs.dropLast⟩) h2⟩
  · exact h.elim
def popAtS (S : Sto) (u : U) (us : List U) : Out U := onR S u fun i ds => match us with
  | [.d (.int j)] => if 0 ≤ j ∧ j < 1000000 then (match ds[j.toNat]? with
    | some y => .ok (.d y) (S.set i (.lst (ds.eraseIdx j.toNat)))
    | none => .bad) else .bad
  | _ => .bad
theorem popAt_ok : MethOk X G "list" rPopAt popAtS := by
  intro W σ F μ S H v vs u us Q R r rs h
  obtain ⟨i, ds, p, ws, rfl, rfl, e, hμ, hp, hs, h⟩ := onR_of R r h
  rcases us with _ | ⟨u1, _ | ⟨u2, us⟩⟩
  · exact h.elim
  · cases u1 with
    | r _ => exact h.elim
    | d y =>
      cases y with
      | int j =>
        cases rs with
        | cons rx rs =>
          cases rs
          cases rx
          by_cases hj : 0 ≤ j ∧ j < 1000000
          · simp only [hj, and_self, if_true] at h
            cases ey : ds[j.toNat]? with
            | none => rw [ey] at h; exact h.elim
            | some y =>
              rw [ey] at h
              obtain ⟨w, h1, h2⟩ := hs.get ey
              have hlt : j.toNat < ws.length := (List.getElem?_eq_some_iff.mp h1).1
              refine ⟨p, ws, j, j.toNat, w, rfl, rfl, hp, by omega, by omega, ?_, h1, h _ _ _ _ (Ex.set R (mem_get hμ)) (R.set hμ e (by intro z; cases z) ⟨_, upd_same, hs.eraseIdx _⟩) h2⟩
              have : ixN ws.length j = some j.toNat := by
                unfold ixN
                rw [if_pos hj.1, if_pos (by omega)]
              exact (ixN_seq this).1
          · simp only [hj, if_false] at h
            exact h.elim
      | _ => exact h.elim
  · cases u1 with
    | r _ => exact h.elim
    | d y => cases y <;> exact h.elim
/-- xs.count(n), whole numbers; xs.count(True), truths -/
def countS (S : Sto) (u : U) (us : List U) : Out U := onL S u fun xs => match us with
  | [.d (.int k)] => (match intsD xs with
    | some ns => .ok (.d (.int (ns.count k : Nat))) S
    | none => .bad)
  | _ => .bad
theorem count_ok : MethOk X G "list" (rCntI X.K) countS := by
  intro W σ F μ S H v vs u us Q R r rs h
  unfold countS onL at h
  split at h
  · rename_i xs e
    obtain ⟨p, ws, rfl, hp, hs⟩ := view_lst R r e
    try dsimp only at h
    split at h
    · rename_i k
      cases rs with
      | cons rx rs =>
        cases rs
        cases rx
        split at h
        · rename_i ns q
          exact ⟨p, ns, k, rfl, rfl, by rw [← intsD_of hs q]; exact SqL.of hp, h.now R (IsD.int _)⟩
        · exact h.elim
    · exact h.elim
  · exact h.elim

/-! ### dicts -/
def keyOf : D → Option Key
  | .int i => some (.inl i)
  | .str x => some (.inr x)
  | _ => none
theorem keyOf_is {K : PySem.W.Frag} {F : Hp} {v : V} {d : D} {k : Key} (h : IsD K G F v d) (e : keyOf d = some k) : v = kV k ∧ d = kD k := by
  cases h <;> simp [keyOf] at e <;> subst e <;> exact ⟨rfl, rfl⟩
theorem keyOf_kD (k : Key) : keyOf (kD k) = some k := by cases k <;> rfl
def kvD (kvs : List (D × D)) : List (Key × D) := kvs.filterMap fun p => (keyOf p.1).map (·, p.2)
def lookD (kvs : List (D × D)) (k : Key) : Option D := (kvs.find? fun p => decide (keyOf p.1 = some k)).map (·.2)
def putD (kvs : List (D × D)) (k : Key) (x : D) : List (D × D) := if (kvs.any fun p => decide (keyOf p.1 = some k)) then kvs.map fun p => if keyOf p.1 = some k then (p.1, x) else p else kvs ++ [(kD k, x)]
def KwIs (K : PySem.W.Frag) (G : Tab) (F : Hp) (kws : List (Key × V)) (kvs : List (D × D)) : Prop := kws.map (fun p => kD p.1) = kvs.map (·.1) ∧ IsDs K G F (kws.map (·.2)) (kvs.map (·.2))
section
variable {K : PySem.W.Frag} {F : Hp}
theorem KwIs.nil : KwIs K G F [] [] := ⟨rfl, .nil⟩
theorem KwIs.inv {q : Key × V} {kws : List (Key × V)} {p : D × D} {kvs : List (D × D)} (h : KwIs K G F (q :: kws) (p :: kvs)) : p.1 = kD q.1 ∧ IsD K G F q.2 p.2 ∧ KwIs K G F kws kvs := by
  obtain ⟨h1, h2⟩ := h
  simp only [List.map_cons, List.cons.injEq] at h1
  simp only [List.map_cons] at h2
  cases h2 with
  | cons a t => exact ⟨h1.1.symm, a, h1.2, t⟩
theorem KwIs.cons {q : Key × V} {kws : List (Key × V)} {p : D × D} {kvs : List (D × D)} (h1 : p.1 = kD q.1) (h2 : IsD K G F q.2 p.2) (h : KwIs K G F kws kvs) : KwIs K G F (q :: kws) (p :: kvs) := ⟨by simp [h1, h.1], .cons h2 h.2⟩
theorem KwIs.length {kws : List (Key × V)} {kvs : List (D × D)} (h : KwIs K G F kws kvs) : kws.length = kvs.length := by
  have := congrArg List.length h.1
  simpa using this
theorem KwIs.look : ∀ {kws : List (Key × V)} {kvs : List (D × D)} (k : Key), KwIs K G F kws kvs → (∀ d, lookD kvs k = some d → ∃ v, valV kws k = some v ∧ IsD K G F v d) ∧ (lookD kvs k = none → valV kws k = none)
  | [], [], k, _ => ⟨fun d h => (by cases h), fun _ => rfl⟩
  | [], _ :: _, _, h => by have := h.length; simp at this
  | _ :: _, [], _, h => by have := h.length; simp at this
  | q :: kws, p :: kvs, k, h => by
    obtain ⟨e, hd, h'⟩ := h.inv
    obtain ⟨i1, i2⟩ := KwIs.look k h'
    by_cases hk : q.1 = k
    · have hk' : decide (keyOf p.1 = some k) = true := by rw [e, keyOf_kD, hk]; simp
      have e1 : lookD (p :: kvs) k = some p.2 := by unfold lookD; rw [List.find?_cons, hk']; rfl
      rw [e1, valV_pos hk]
      exact ⟨fun d z => (by cases z; exact ⟨_, rfl, hd⟩), fun z => (by cases z)⟩
    · have hk' : decide (keyOf p.1 = some k) = false := by rw [e, keyOf_kD]; simp [hk]
      have e1 : lookD (p :: kvs) k = lookD kvs k := by unfold lookD; rw [List.find?_cons, hk']
      rw [e1, valV_neg hk]
      exact ⟨i1, i2⟩
theorem KwIs.any : ∀ {kws : List (Key × V)} {kvs : List (D × D)} (k : Key), KwIs K G F kws kvs → (kws.any fun p => decide (p.1 = k)) = (kvs.any fun p => decide (keyOf p.1 = some k))
  | [], [], k, _ => rfl
  | [], _ :: _, _, h => by have := h.length; simp at this
  | _ :: _, [], _, h => by have := h.length; simp at this
  | q :: kws, p :: kvs, k, h => by
    obtain ⟨e, hd, h'⟩ := h.inv
    rw [List.any_cons, List.any_cons, KwIs.any k h', e, keyOf_kD]
    simp
theorem KwIs.repl {x : D} {v : V} (hx : IsD K G F v x) : ∀ {kws : List (Key × V)} {kvs : List (D × D)} (k : Key), KwIs K G F kws kvs → KwIs K G F (kws.map fun p => if p.1 = k then (p.1, v) else p) (kvs.map fun p => if keyOf p.1 = some k then (p.1, x) else p)
  | [], [], k, _ => KwIs.nil
  | [], _ :: _, _, h => by have := h.length; simp at this
  | _ :: _, [], _, h => by have := h.length; simp at this
  | q :: kws, p :: kvs, k, h => by
    obtain ⟨e, hd, h'⟩ := h.inv
    rw [List.map_cons, List.map_cons]
    by_cases hk : q.1 = k
    · rw [if_pos hk, if_pos (by rw [e, keyOf_kD, hk])]
      exact .cons e hx (KwIs.repl hx k h')
    · rw [if_neg hk, if_neg (by rw [e, keyOf_kD]; simpa using hk)]
      exact .cons e hd (KwIs.repl hx k h')
theorem KwIs.app {kws ws : List (Key × V)} {kvs vs : List (D × D)} (h : KwIs K G F kws kvs) (h' : KwIs K G F ws vs) : KwIs K G F (kws ++ ws) (kvs ++ vs) := ⟨by simp [h.1, h'.1], by simpa using h.2.append h'.2⟩
theorem KwIs.put {x : D} {v : V} (hx : IsD K G F v x) {kws : List (Key × V)} {kvs : List (D × D)} (k : Key) (h : KwIs K G F kws kvs) : KwIs K G F (putK kws k v) (putD kvs k x) := by
  unfold putK putD
  rw [h.any k]
  split
  · exact h.repl hx k
  · exact h.app (.cons rfl hx .nil)
end
/-- a new dict that may be changed -/
theorem ee_newd : EE X G W (.Dict [] [] pos) (fun _ S => .ok (.r S.length) (S ++ [.dct []])) :=
  ⟨_, pe_dnewK, fun σ H ρ S F μ Q R E h => fun p hp => h _ _ _ _ (Ex.newR hp) (R.newR hp ⟨[], upd_same, rfl, .nil⟩) ⟨p, by rw [← R.len, List.getElem?_append_right (Nat.le_refl _)]; simp, rfl⟩⟩
theorem ee_dict0 : EE X G W (.Dict [] [] pos) (kS (.dct [] [])) :=
  ⟨_, pe_dnewK, fun σ H ρ S F μ Q R E h => fun p hp => h _ _ _ _ (Ex.anew R hp) (R.anew hp) (IsD.dct (.inl upd_same) rfl .nil)⟩
/-- what a dict holds, changing or not -/
def kvsOf (S : Sto) : U → Option (List (D × D))
  | .r k => match S[k]? with
    | some (.dct kvs) => some kvs
    | _ => none
  | .d (.dct ks ds) => if ks.length = ds.length then some (ks.zip ds) else none
  | _ => none
theorem kvsOf_is {F H : Hp} {μ : List Addr} {S : Sto} {v : V} {u : U} {kvs : List (D × D)} (R : Rl X.K G F μ S H) (r : IsU X.K G F μ v u) (h : kvsOf S u = some kvs) : ∃ p kws, v = .ref p ∧ Rd H p (.dK kws) ∧ KwIs X.K G F kws kvs := by
  cases u with
  | r k =>
    obtain ⟨a, h1, rfl⟩ := r
    simp only [kvsOf] at h
    split at h
    · rename_i kvs' e
      cases h
      obtain ⟨_, kws, q, hk, hs⟩ := R.obj k a _ h1 e (by intro z; cases z)
      exact ⟨a, kws, rfl, .inl q, hk, hs⟩
    · cases h
  | d x =>
    cases r with
    | dct q hk hs =>
      rename_i p kws ks ds
      simp only [kvsOf] at h
      split at h
      · rename_i hl
        cases h
        exact ⟨_, _, rfl, R.sub.rd q, by rw [List.map_fst_zip (Nat.le_of_eq hl)]; exact hk, by rw [List.map_snd_zip (Nat.le_of_eq hl.symm)]; exact hs⟩
      · cases h
    | _ => cases h
theorem dget_of {H : Hp} {p : Addr} {kws : List (Key × V)} (h : Rd H p (.dK kws)) (k : Key) : DGet H p (kV k) (valV kws k) := .inl ⟨kws, k, h, rfl, rfl⟩
/-- d[k] -/
def dgetS (S : Sto) (u w : U) : Out U := match kvsOf S u, w with
  | some kvs, .d x => (match keyOf x with
    | some k => (match lookD kvs k with
      | some y => .ok (.d y) S
      | none => .bad)
    | none => .bad)
  | _, _ => .bad
theorem nosl_c {e : Expr} (h : sliceless e = true) : NoSl e := fun o i => by
  cases e <;> first | rfl | cases h
theorem ee_dget (hu : X.A.units + 1 < cLine) (ha : EE X G W a fa) (hb : EE X G W b fb) (hs : sliceless b = true) : EE X G W (.Subscript a b pos) (fun ρ S => (fa ρ S).bind fun x S1 => (fb ρ S1).bind fun y S2 => dgetS S2 x y) := by
  obtain ⟨ta, pa, qa⟩ := ha.ex
  obtain ⟨tb, pb, qb⟩ := hb.ex
  refine ⟨_, pe_dget hu pa pb (nosl_c hs), fun σ H ρ S F μ Q R E h => ?_⟩
  refine qa σ H ρ S F μ _ R E (h.bind fun x S1 v F1 μ1 H1 zq1 e1 R1 r1 h1 => ?_)
  refine qb σ H1 ρ S1 F1 μ1 _ R1 (E.mono e1) (h1.bind fun y S2 w F2 μ2 H2 zq2 e2 R2 r2 h2 => ?_)
  unfold dgetS at h2
  split at h2
  · rename_i kvs z q1
    split at h2
    · rename_i k q2
      split at h2
      · rename_i d q3
        obtain ⟨p, kws, rfl, hp, hk⟩ := kvsOf_is R2 (r1.mono e2) q1
        obtain ⟨rfl, _⟩ := keyOf_is r2 q2
        obtain ⟨vv, g1, g2⟩ := (hk.look k).1 d q3
        exact ⟨p, vv, rfl, by rw [← g1]; exact dget_of hp k, h2.now R2 g2⟩
      · exact h2.elim
    · exact h2.elim
  · exact h2.elim
/-- k in d, k not in d -/
def dinS (f : Bool → Bool) (S : Sto) (w u : U) : Out U := match kvsOf S u, w with
  | some kvs, .d x => (match keyOf x with
    | some k => bV (f (lookD kvs k).isSome) S
    | none => .bad)
  | _, _ => .bad
theorem look_some {K : PySem.W.Frag} {F : Hp} {kws : List (Key × V)} {kvs : List (D × D)} (h : KwIs K G F kws kvs) (k : Key) : (valV kws k).isSome = (lookD kvs k).isSome := by
  obtain ⟨h1, h2⟩ := h.look k
  cases e : lookD kvs k with
  | none => rw [h2 e]; rfl
  | some d => obtain ⟨v, g, _⟩ := h1 d e; rw [g]; rfl
theorem ee_din (hu : X.A.units + 1 < cLine) (ha : EE X G W a fa) (hb : EE X G W b fb) (hs : setless b = true) : EE X G W (.Compare a [.In] [b] pos) (fun ρ S => (fa ρ S).bind fun x S1 => (fb ρ S1).bind fun y S2 => dinS _root_.id S2 x y) := by
  obtain ⟨ta, pa, qa⟩ := ha.ex
  obtain ⟨tb, pb, qb⟩ := hb.ex
  refine ⟨_, pe_cmp (pc_din hu pa pb) (behind_c hs _), fun σ H ρ S F μ Q R E h => ?_⟩
  refine qa σ H ρ S F μ _ R E (h.bind fun x S1 v F1 μ1 H1 zq1 e1 R1 r1 h1 => ?_)
  refine qb σ H1 ρ S1 F1 μ1 _ R1 (E.mono e1) (h1.bind fun y S2 w F2 μ2 H2 zq2 e2 R2 r2 h2 => ?_)
  have r1 := r1.mono e2
  unfold dinS at h2
  cases q1 : kvsOf S2 y with
  | none => rw [q1] at h2; exact h2.elim
  | some kvs =>
    rw [q1] at h2
    cases x with
    | r _ => exact h2.elim
    | d z =>
      cases q2 : keyOf z with
      | none => simp only [q2] at h2; exact h2.elim
      | some k =>
        simp only [q2] at h2
        obtain ⟨p, kws, rfl, hp, hk⟩ := kvsOf_is R2 r2 q1
        obtain ⟨rfl, _⟩ := keyOf_is r1 q2
        refine ⟨p, _, rfl, dget_of hp k, ?_⟩
        rw [look_some hk]
        exact h2.now R2 (IsD.bl _)
/-- d.get(k, x) -/
def dget2S (S : Sto) (u : U) (us : List U) : Out U := match kvsOf S u, us with
  | some kvs, [.d x, .d y] => (match keyOf x with
    | some k => .ok (.d ((lookD kvs k).getD y)) S
    | none => .bad)
  | _, _ => .bad
theorem ee_dget2 {nm : Str} (hnm : nm = "get") (hu : X.A.units + 1 < cLine) (ho : EE X G W o fo) (ha : EE X G W a fa) (hb : EE X G W b fb) (hc : callless o = true) (hs : starless a = true) (hs2 : starless b = true) (hline : (apos.endLine == cpos.line) = true) :
    EE X G W (.Call (.Attribute o nm apos) [a, b] [] cpos) (fun ρ S => (fo ρ S).bind fun u S1 => match kvsOf S1 u with
      | some _ => (fa ρ S1).bind fun x S2 => (fb ρ S2).bind fun y S3 => dget2S S3 u [x, y]
      | none => .bad) := by
  subst hnm
  obtain ⟨to, po, qo⟩ := ho.ex
  obtain ⟨ta, pa, qa⟩ := ha.ex
  obtain ⟨tb, pb, qb⟩ := hb.ex
  refine ⟨_, pe_dget2 hu po pa pb ⟨attrBase_ok hc _ _ _, by rw [starEach_c hs, starEach_c hs2]; rfl, hline, by rw [starEach_c hs, starEach_c hs2]; rfl⟩, fun σ H ρ S F μ Q R E h => ?_⟩
  refine qo σ H ρ S F μ _ R E (Run.bind h fun u S1 v F1 μ1 H1 zq1 e1 R1 r1 h1 => ?_)
  split at h1
  · rename_i kvs0 q0
    obtain ⟨p, kws0, rfl, hp0, hk0⟩ := kvsOf_is R1 r1 q0
    refine ⟨p, rfl, .inl ⟨_, hp0⟩, ?_⟩
    refine qa σ H1 ρ S1 F1 μ1 _ R1 (E.mono e1) (Run.bind h1 fun x S2 w F2 μ2 H2 zq2 e2 R2 r2 h2 => ?_)
    refine qb σ H2 ρ S2 F2 μ2 _ R2 ((E.mono e1).mono e2) (Run.bind h2 fun y S3 z F3 μ3 H3 zq3 e3 R3 r3 h3 => ?_)
    unfold dget2S at h3
    split at h3
    · rename_i kvs x y q1 q4
      cases q4
      split at h3
      · rename_i k q2
        obtain ⟨p', kws, ep, hp, hk⟩ := kvsOf_is R3 ((r1.mono e2).mono e3) q1
        cases ep
        obtain ⟨rfl, _⟩ := keyOf_is (r2.mono e3) q2
        refine ⟨_, dget_of hp k, ?_⟩
        obtain ⟨g1, g2⟩ := hk.look k
        cases q : lookD kvs k with
        | none => rw [g2 q]; rw [q] at h3; exact h3.now R3 r3
        | some d =>
          obtain ⟨vv, g3, g4⟩ := g1 d q
          rw [g3]
          rw [q] at h3
          exact h3.now R3 g4
      · exact h3.elim
    · exact h3.elim
  · exact h1.elim

/-! ### o[i] = v -/
def setItS (S : Sto) (o i v : U) : Option Sto := match o, v with
  | .r k, .d x => (match S[k]? with
    | some (.lst ds) => (match view S i with
      | .int j => (ixN ds.length j).map fun n => S.set k (.lst (ds.set n x))
      | _ => none)
    | some (.dct kvs) => (match i with
      | .d y => (match keyOf y with
        | some q => if kvs.length < 16777216 then some (S.set k (.dct (putD kvs q x))) else none
        | none => none)
      | _ => none)
    | _ => none)
  | _, _ => none
theorem PSet.or {t t' : TSet} (h : PSet X t) (h' : PSet X t') : PSet X (fun o i v H Q => t o i v H Q ∨ t' o i v H Q) := by
  intro pins s σ H o i v ov iv u Q I ro ri rv q
  rcases q with q | q
  · exact h pins s σ H o i v ov iv u Q I ro ri rv q
  · exact h' pins s σ H o i v ov iv u Q I ro ri rv q
def setItem (fo fi fv : SemE) : SemS := fun ρ S => (fv ρ S).bind fun v S1 => (fo ρ S1).bind fun o S2 => (fi ρ S2).bind fun i S3 => match setItS S3 o i v with
  | some S4 => .ok (.nx ρ) S4
  | none => .bad
theorem assignSub_c {o i : Expr} {pos : Pos} {env : PySem.Env} (h : sliceless i = true) (v : Value) : assign (.Subscript o i pos) env v = (do
      let ov ← holding [v] (eval o env)
      let iv ← holding [v, ov] (eval i env)
      standAt pos
      holding [v, ov, iv] (PySem.setItem ov iv v)
      release [v, ov, iv] []) := by
  cases i <;> first | rfl | cases h
theorem ss_setItem {n : Nat} {p' : Pos} {fi fv : SemE} (hu : X.A.units + 1 < cLine) (ho : EE X G W o fo) (hi : EE X G W b fi) (hv : EE X G W e fv) (hs : sliceless b = true) (hc : compless e = true) (ht : tupless e = true) :
    SS X G W n (.Assign [.Subscript o b p'] e pos) (setItem fo fi fv) := by
  obtain ⟨to, po, qo⟩ := ho.ex
  obtain ⟨ti, pi, qi⟩ := hi.ex
  obtain ⟨tv, pv, qv⟩ := hv.ex
  have hsw : swapsWithSole [o.Subscript b p'] e pos.line X.env = pure false := by
    cases e <;> first | (cases hc; done) | rfl
  refine ⟨_, ps_asg pv (pg_sub po pi (PSet.or set_list (set_dict hu)) (assignSub_c hs)) hsw (swapped_c ht _) rfl, fun σ H ρ S F μ D R E hn h => ?_⟩
  refine qv σ H ρ S F μ _ R E (SRun.bindE hn h fun u S1 v F1 μ1 H1 zq1 e1 R1 r1 hn1 h1 => ?_)
  refine qo σ H1 ρ S1 F1 μ1 _ R1 (E.mono e1) (SRun.bindE hn1 h1 fun w S2 ow F2 μ2 H2 zq2 e2 R2 r2 hn2 h2 => ?_)
  refine qi σ H2 ρ S2 F2 μ2 _ R2 ((E.mono e1).mono e2) (SRun.bindE hn2 h2 fun z S3 iw F3 μ3 H3 zq3 e3 R3 r3 hn3 h3 => ?_)
  have r1 := (r1.mono e2).mono e3
  have r2 := r2.mono e3
  have E3 := ((E.mono e1).mono e2).mono e3
  unfold setItS at h3
  cases w with
  | d _ => exact h3.elim
  | r k =>
    cases u with
    | r _ => exact h3.elim
    | d x =>
      obtain ⟨p, hμ, rfl⟩ := r2
      cases es : S3[k]? with
      | none => simp only [es] at h3; exact h3.elim
      | some ob =>
        cases ob with
        | dead => simp only [es] at h3; exact h3.elim
        | lst ds =>
          simp only [es] at h3
          obtain ⟨_, vs, hp, hs'⟩ := R3.obj k p _ hμ es (by intro z; cases z)
          cases ej : view S3 z with
          | int j =>
            simp only [ej] at h3
            cases em : ixN ds.length j with
            | none => simp only [em, Option.map_none] at h3; exact h3.elim
            | some m =>
              simp only [em, Option.map_some] at h3
              refine .inl ⟨p, vs, j, m, rfl, view_int r3 ej, hp, by rw [hs'.length]; exact em, ?_⟩
              exact h3 σ _ F3 μ3 ((Ex.set R3 (mem_get hμ)).ez hn3) (R3.set hμ es (by intro z; cases z) ⟨_, upd_same, hs'.set r1 m⟩) E3
          | _ => simp only [ej] at h3; exact h3.elim
        | dct kvs =>
          simp only [es] at h3
          obtain ⟨_, kws, hp, hk⟩ := R3.obj k p _ hμ es (by intro z; cases z)
          cases z with
          | r _ => exact h3.elim
          | d y =>
            cases ek : keyOf y with
            | none => simp only [ek] at h3; exact h3.elim
            | some ky =>
              simp only [ek] at h3
              by_cases hl : kvs.length < 16777216
              · simp only [hl, if_true] at h3
                obtain ⟨rfl, _⟩ := keyOf_is r3 ek
                have hk' : KwIs X.K G F3 kws kvs := hk
                refine .inr ⟨p, _, rfl, DPut.k hp (by rw [hk'.length, ← lim_eq]; exact hl), ?_⟩
                exact h3 σ _ F3 μ3 ((Ex.set R3 (mem_get hμ)).ez hn3) (R3.set hμ es (by intro z; cases z) ⟨_, upd_same, hk'.put r1 ky⟩) E3
              · simp only [hl, if_false] at h3
                exact h3.elim
end
end Pq

namespace Pq
open PySem PySem.Spec PyProof.Rows L2

/-! ### comprehensions -/
def wipeE (ρ : Ev) : List Nat → Ev
  | [] => ρ
  | v :: vs => (wipeE ρ vs).set v none
section
variable {K : PySem.W.Frag} {G : Tab} {F H : Hp} {μ : List Addr} {S : Sto} {σ : L2.St} {ρ : Ev} {p : Addr} {o : HO}
theorem EnvIs.set_none (h : EnvIs K G F μ σ ρ) (i : Nat) : EnvIs K G F μ (σ.set i none) (ρ.set i none) := by
  refine ⟨by simp [h.1], fun j w hj => ?_⟩
  by_cases e : i = j
  · subst e
    by_cases hi : i < ρ.length
    · rw [List.getElem?_set_self hi] at hj; cases hj
    · rw [List.getElem?_eq_none (by simpa using hi)] at hj; cases hj
  · rw [List.getElem?_set_ne e] at hj ⊢
    exact h.2 j w hj
theorem EnvIs.wipe (h : EnvIs K G F μ σ ρ) : ∀ vs : List Nat, EnvIs K G F μ (L2.wipe σ vs) (wipeE ρ vs)
  | [] => h
  | v :: vs => (EnvIs.wipe h vs).set_none v
/-- a thing of nobody's, changed -/
theorem Rl.poke (R : Rl K G F μ S H) (hF : F p = none) (hμ : p ∉ μ) : Rl K G F μ S (upd H p o) where
  sub := fun b u e => by
    rw [upd_ne (ne_of_none e hF)]
    exact R.sub _ _ e
  len := R.len
  obj := fun k a q hk hs hd => by
    obtain ⟨h1, h2⟩ := R.obj k a q hk hs hd
    have ne : a ≠ p := fun z => hμ (z ▸ List.mem_of_getElem? hk)
    exact ⟨h1, IsO.mono h2 (Same.refl _) fun u e => by rw [upd_ne ne]; exact e⟩
  inj := R.inj
  thr := fun a ha => by
    obtain ⟨u, h⟩ := R.thr a ha
    have ne : a ≠ p := fun z => hμ (z ▸ ha)
    exact ⟨u, by rw [upd_ne ne]; exact h⟩
theorem Ex.poke {F1 H1 : Hp} {μ1 : List Addr} (e : Ex F1 μ1 H1 F μ H) (hp : H1 p = none) : Ex F1 μ1 H1 F μ (upd H p o) :=
  ⟨e.fr, e.pre, fun b u h hn => by rw [upd_ne (ne_of_none h hp)]; exact e.keep b u h hn, e.new, e.newμ⟩
/-- a thing of nobody's stands for good from here on -/
theorem Rl.adopt (R : Rl K G F μ S H) (hp : H p = some o) (hF : F p = none) (hμ : p ∉ μ) : Rl K G (upd F p o) μ S H where
  sub := fun b u e => by
    by_cases hb : b = p
    · subst hb; rw [upd_same] at e; rw [hp]; exact e
    · rw [upd_ne hb] at e; exact R.sub _ _ e
  len := R.len
  obj := fun k a q hk hs hd => by
    obtain ⟨h1, h2⟩ := R.obj k a q hk hs hd
    have ne : a ≠ p := fun z => hμ (z ▸ List.mem_of_getElem? hk)
    exact ⟨by rw [upd_ne ne]; exact h1, IsO.mono h2 (same_new hF) fun u e => e⟩
  inj := R.inj
  thr := R.thr
theorem Ex.adopt {F1 H1 : Hp} {μ1 : List Addr} (e : Ex F1 μ1 H1 F μ H) (hp : H1 p = none) (hF : F p = none) : Ex F1 μ1 H1 (upd F p o) μ H :=
  ⟨e.fr.trans (same_new hF), e.pre, e.keep, fun b u h => by
    by_cases hb : b = p
    · subst hb; exact .inr (.inl hp)
    · rw [upd_ne hb] at h; exact e.new b u h, e.newμ⟩
/-- .. or may be changed -/
theorem Rl.adoptR {q : O} (R : Rl K G F μ S H) (hp : H p = some o) (hF : F p = none) (hμ : p ∉ μ) (h : IsO K G F H p q) : Rl K G F (μ ++ [p]) (S ++ [q]) H where
  sub := R.sub
  len := by simp [R.len]
  obj := fun k a u hk hs hd => by
    by_cases hl : k < μ.length
    · rw [List.getElem?_append_left hl] at hk
      rw [List.getElem?_append_left (by rw [← R.len]; exact hl)] at hs
      exact R.obj k a u hk hs hd
    · have e : k = μ.length := by
        have := (List.getElem?_eq_some_iff.mp hk).1
        simp at this; omega
      subst e
      rw [List.getElem?_append_right (Nat.le_refl _)] at hk
      rw [List.getElem?_append_right (by rw [R.len]; exact Nat.le_refl _)] at hs
      simp at hk
      simp [R.len] at hs
      subst hk hs
      exact ⟨hF, h⟩
  inj := fun j k a u u' hj hk hsj hsk hd hd' => by
    have last : ∀ (i : Nat) (b : Addr), ¬ i < μ.length → (μ ++ [p])[i]? = some b → i = μ.length ∧ b = p := fun i b hl h1 => by
      have e : i = μ.length := by
        have := (List.getElem?_eq_some_iff.mp h1).1
        simp at this; omega
      subst e
      rw [List.getElem?_append_right (Nat.le_refl _)] at h1
      simp at h1
      exact ⟨rfl, h1.symm⟩
    have low : ∀ (i : Nat) (b : Addr), i < μ.length → (μ ++ [p])[i]? = some b → b ≠ p := fun i b hl h1 z => by
      rw [List.getElem?_append_left hl] at h1
      exact hμ (z ▸ List.mem_of_getElem? h1)
    by_cases lj : j < μ.length
    · by_cases lk : k < μ.length
      · rw [List.getElem?_append_left lj] at hj
        rw [List.getElem?_append_left lk] at hk
        rw [List.getElem?_append_left (by rw [← R.len]; exact lj)] at hsj
        rw [List.getElem?_append_left (by rw [← R.len]; exact lk)] at hsk
        exact R.inj j k a u u' hj hk hsj hsk hd hd'
      · exact absurd (last k a lk hk).2 (low j a lj hj)
    · by_cases lk : k < μ.length
      · exact absurd (last j a lj hj).2 (low k a lk hk)
      · rw [(last j a lj hj).1, (last k a lk hk).1]
  thr := fun a ha => by
    rcases List.mem_append.mp ha with ha | ha
    · exact R.thr a ha
    · have : a = p := by simpa using ha
      subst this
      exact ⟨_, hp⟩
theorem Ex.adoptR {F1 H1 : Hp} {μ1 : List Addr} (e : Ex F1 μ1 H1 F μ H) (hp : H1 p = none) : Ex F1 μ1 H1 F (μ ++ [p]) H := by
  obtain ⟨t, et⟩ := e.pre
  refine ⟨e.fr, ⟨t ++ [p], by rw [et, List.append_assoc]⟩, e.keep, e.new, fun b hb => ?_⟩
  rcases List.mem_append.mp hb with hb | hb
  · exact e.newμ b hb
  · have : b = p := by simpa using hb
    subst this; exact .inr hp
end

/-- the tests of a clause -/
inductive EIf (X : Cx) (G : Tab) : List Expr → Option SemT → Prop
  | none : EIf X G [] none
  | some {c : Expr} {t : SemT} (h : ET X G (fun _ _ _ _ => False) c t) : EIf X G [c] (some t)
def ifsS (t : Option SemT) (ρ : Ev) (S : Sto) : Out Bool := match t with
  | .none => .ok true S
  | .some t => t ρ S
theorem EIf.ex {X : Cx} {G : Tab} {cs : List Expr} {t : Option SemT} (h : EIf X G cs t) : ∃ tt : TT, PTs X cs tt ∧ ∀ σ H ρ S F μ Q, Rl X.K G F μ S H → EnvIs X.K G F μ σ ρ → Run X.K G (fun _ _ _ _ => False) σ F μ H relB (ifsS t ρ S) Q → tt σ H Q := by
  cases h with
  | none => exact ⟨_, pts_nil, fun σ H ρ S F μ Q R E h => Run.now h R rfl⟩
  | some h =>
    obtain ⟨tt, p, q⟩ := h.ex
    exact ⟨_, pts_one p, q⟩
/-- nothing is raised -/
def Out.nox {α : Type} (o : Out α) : Out α := match o with
  | .exc _ _ => .bad
  | o => o
def compL (tg : SemG) (t : Option SemT) (f : SemE) (ρ : Ev) : List D → Sto → Out (List D)
  | [], S => .ok [] S
  | d :: ds, S => match tg (.d d) ρ with
    | .none => .bad
    | .some ρ1 => (ifsS t ρ1 S).nox.bind fun k S1 => if k = true then (f ρ1 S1).nox.bind fun u S2 => (match u with
        | .d y => (compL tg t f ρ ds S2).bind fun ys S3 => .ok (y :: ys) S3
        | .r _ => .bad) else compL tg t f ρ ds S1
def compS (it : Ev → Sto → Out (List D)) (tg : SemG) (t : Option SemT) (f : SemE) (vs : List Nat) (ρ : Ev) (S : Sto) : Out (List D) :=
  (it ρ S).bind fun ds S1 => if ds.length ≤ 16777216 then compL tg t f (wipeE ρ vs) ds S1 else .bad
section
variable {X : Cx} {G : Tab} {W : WX} {tg a b c e o elt iter : Expr} {ifs : List Expr} {es : List Expr} {pos : Pos}
theorem run_nox {α β : Type} {K : PySem.W.Frag} {σ : L2.St} {F H : Hp} {μ : List Addr} {rel : Hp → List Addr → β → α → Prop} {x : Out α} {Q : β → Hp → Prop} {W' : WX} (h : Run K G W σ F μ H rel x.nox Q) : Run K G W' σ F μ H rel x Q := by
  cases x with
  | ok a S => exact h
  | exc x S => exact h.elim
  | bad => exact h
/-- how a list in the making stands: at D, of nobody -/
structure Mk1 (K : PySem.W.Frag) (G : Tab) (F1 : Hp) (μ1 : List Addr) (H1 : Hp) (D : Addr) (acc : List V) (F : Hp) (μ : List Addr) (S : Sto) (H : Hp) : Prop where
  ex : Ex F1 μ1 H1 F μ H
  rl : Rl K G F μ S H
  at_ : H D = some (.lst acc)
  nF : F D = none
  nμ : D ∉ μ
theorem Mk1.later {K : PySem.W.Frag} {F1 H1 F H F' H' : Hp} {μ1 μ μ' : List Addr} {D : Addr} {acc : List V} {S S' : Sto} (m : Mk1 K G F1 μ1 H1 D acc F μ S H) (e : Ex F μ H F' μ' H') (R : Rl K G F' μ' S' H') : Mk1 K G F1 μ1 H1 D acc F' μ' S' H' where
  ex := m.ex.trans e
  rl := R
  at_ := e.keep D _ m.at_ m.nμ
  nF := by
    cases q : F' D with
    | none => rfl
    | some o =>
      rcases e.new D o q with z | z | z
      · rw [m.nF] at z; cases z
      · rw [m.at_] at z; cases z
      · exact absurd z m.nμ
  nμ := fun h => by
    rcases e.newμ D h with z | z
    · exact m.nμ z
    · rw [m.at_] at z; cases z
theorem Mk1.push {K : PySem.W.Frag} {F1 H1 F H : Hp} {μ1 μ : List Addr} {D : Addr} {acc acc' : List V} {S : Sto} (m : Mk1 K G F1 μ1 H1 D acc F μ S H) (h1 : H1 D = none) : Mk1 K G F1 μ1 H1 D acc' F μ S (upd H D (.lst acc')) :=
  ⟨m.ex.poke h1, m.rl.poke m.nF m.nμ, upd_same, m.nF, m.nμ⟩

theorem wipe_wipe {σ : L2.St} {vs : List Nat} : ∀ {ws : List Nat}, (∀ i ∈ ws, i ∈ vs) → L2.wipe (L2.wipe σ ws) vs = L2.wipe σ vs
  | [], _ => rfl
  | w :: ws, h => by
    show L2.wipe ((L2.wipe σ ws).set w none) vs = _
    rw [wipe_set (h w List.mem_cons_self)]
    exact wipe_wipe fun i hi => h i (List.mem_cons_of_mem _ hi)
theorem Out.nox_ok {α : Type} {o : Out α} {a : α} {S : Sto} (h : o.nox = .ok a S) : o = .ok a S := by
  cases o with
  | ok _ _ => exact h
  | exc _ _ => cases h
  | bad => cases h
theorem Out.bind_inv {α β : Type} {o : Out α} {f : α → Sto → Out β} {b : β} {S : Sto} (h : o.bind f = .ok b S) : ∃ a S', o = .ok a S' ∧ f a S' = .ok b S := by
  cases o with
  | ok a S' => exact ⟨a, S', rfl, h⟩
  | exc _ _ => cases h
  | bad => cases h
theorem compL_inv {g : SemG} {t : Option SemT} {f : SemE} {ρ : Ev} {d : D} {ds : List D} {S S' : Sto} {ys : List D} (h : compL g t f ρ (d :: ds) S = .ok ys S') :
    ∃ ρ1 k S1, g (.d d) ρ = some ρ1 ∧ ifsS t ρ1 S = .ok k S1 ∧ ((k = true ∧ ∃ y S2 ys', f ρ1 S1 = .ok (.d y) S2 ∧ compL g t f ρ ds S2 = .ok ys' S' ∧ ys = y :: ys') ∨ (k = false ∧ compL g t f ρ ds S1 = .ok ys S')) := by
  unfold compL at h
  cases e1 : g (.d d) ρ with
  | none => rw [e1] at h; cases h
  | some ρ1 =>
    rw [e1] at h
    obtain ⟨k, S1, e2, h⟩ := Out.bind_inv h
    refine ⟨ρ1, k, S1, rfl, Out.nox_ok e2, ?_⟩
    cases k with
    | false => exact .inr ⟨rfl, h⟩
    | true =>
      rw [if_pos rfl] at h
      obtain ⟨u, S2, e3, h⟩ := Out.bind_inv h
      cases u with
      | r _ => cases h
      | d y =>
        obtain ⟨ys', S3, e4, h⟩ := Out.bind_inv h
        cases h
        exact .inl ⟨rfl, y, S2, ys', Out.nox_ok e3, e4, rfl⟩
theorem compL_nox {g : SemG} {t : Option SemT} {f : SemE} {ρ : Ev} : ∀ {ds : List D} {S : Sto} {x : X1} {S' : Sto}, compL g t f ρ ds S ≠ .exc x S'
  | [], S, x, S', h => by cases h
  | d :: ds, S, x, S', h => by
    unfold compL at h
    cases e1 : g (.d d) ρ with
    | none => rw [e1] at h; cases h
    | some ρ1 =>
      rw [e1] at h
      cases e2 : (ifsS t ρ1 S).nox with
      | bad => simp only [e2] at h; cases h
      | exc _ _ =>
        cases q : ifsS t ρ1 S <;> rw [q] at e2 <;> cases e2
      | ok k S1 =>
        simp only [e2, Out.bind_ok] at h
        cases k with
        | false => exact compL_nox h
        | true =>
          rw [if_pos rfl] at h
          cases e3 : (f ρ1 S1).nox with
          | bad => simp only [e3] at h; cases h
          | exc _ _ =>
            cases q : f ρ1 S1 <;> rw [q] at e3 <;> cases e3
          | ok u S2 =>
            simp only [e3, Out.bind_ok] at h
            cases u with
            | r _ => cases h
            | d y =>
              simp only at h
              cases e4 : compL g t f ρ ds S2 with
              | bad => rw [e4] at h; cases h
              | exc _ _ => exact compL_nox e4
              | ok ys S3 => rw [e4] at h; cases h
/-- the reading of a comprehension over J -/
theorem comp_run {K : PySem.W.Frag} {J : It} {ds : List D} {g : SemG} {sl vs : List Nat} {t : Option SemT} {f : SemE} {tg' : TG} {tt : TT} {te : TE} {σ : L2.St} {ρ : Ev} {F1 H1 : Hp} {μ1 : List Addr} {S1 : Sto} {Dn : Addr} {Qd : Hp → Prop}
    (qg : ∀ v u σ H ρ ρ' F μ S (Q : L2.St → Hp → Prop), Rl K G F μ S H → IsU K G F μ v u → EnvIs K G F μ σ ρ → g u ρ = some ρ' → (∀ σ', EnvIs K G F μ σ' ρ' → But sl σ σ' → Q σ' H) → tg' v σ H Q)
    (qt : ∀ σ H ρ S F μ Q, Rl K G F μ S H → EnvIs K G F μ σ ρ → Run K G (fun _ _ _ _ => False) σ F μ H relB (ifsS t ρ S) Q → tt σ H Q)
    (qe : ∀ σ H ρ S F μ Q, Rl K G F μ S H → EnvIs K G F μ σ ρ → Run K G (fun _ _ _ _ => False) σ F μ H (IsU K G) (f ρ S) Q → te σ H Q)
    (hsl : ∀ i ∈ sl, i ∈ vs) (it : ItIs K G F1 J ds) (hl : ds.length ≤ 16777216) (R1 : Rl K G F1 μ1 S1 H1) (E1 : EnvIs K G F1 μ1 (L2.wipe σ vs) ρ) (hD : H1 Dn = none)
    {all : List D} {Sz : Sto} (h : compL g t f ρ ds S1 = .ok all Sz) (hP : ∀ acc F μ H, Mk1 K G F1 μ1 H1 Dn acc F μ Sz H → IsDs K G F acc all → Qd H) :
    ∃ Wi : Nat → Nat → Hp → Prop, (∃ m, Wi 0 m (upd H1 Dn (.lst []))) ∧ ∀ i m H, Wi i m H →
      (J.stop i H ∧ Qd H) ∨ (J.go i H ∧ ∃ Nx : Hp → Prop, (∀ H', Nx H' → ∃ m', m' < m ∧ Wi (i + 1) m' H') ∧ ∀ x H', J.yld i H x H' → tg' x (L2.wipe σ vs) H' fun σ2 H2 => L2.wipe σ2 vs = L2.wipe σ vs ∧ tt σ2 H2 fun b H3 =>
        if b = true then te σ2 H3 fun y H4 => ∃ acc, H4 Dn = some (.lst acc) ∧ acc.length < sizeLine ∧ Nx (upd H4 Dn (.lst (acc ++ [y]))) else Nx H3) := by
  refine ⟨fun i m H => m = ds.length - i ∧ i ≤ ds.length ∧ ∃ acc zs F μ S, Mk1 K G F1 μ1 H1 Dn acc F μ S H ∧ IsDs K G F acc zs ∧ acc.length ≤ i ∧ ∃ ys, compL g t f ρ (ds.drop i) S = .ok ys Sz ∧ zs ++ ys = all, ⟨ds.length, by simp, Nat.zero_le _, ?_⟩, ?_⟩
  · refine ⟨[], [], F1, μ1, S1, ⟨Ex.newH hD, R1.newH hD, upd_same, R1.fnone hD, fun hm => ?_⟩, .nil, Nat.le_refl _, all, by simpa using h, rfl⟩
    obtain ⟨o, ho⟩ := R1.thr _ hm
    rw [hD] at ho; cases ho
  · rintro i m H ⟨rfl, hi, acc, zs, F, μ, S, m1, hz, hai, ys, hy, hall⟩
    by_cases hlt : i < ds.length
    · refine .inr ⟨it.go i F H m1.ex.fr m1.rl.sub hlt, fun H' => ∃ acc zs F μ S, Mk1 K G F1 μ1 H1 Dn acc F μ S H' ∧ IsDs K G F acc zs ∧ acc.length ≤ i + 1 ∧ ∃ ys, compL g t f ρ (ds.drop (i + 1)) S = .ok ys Sz ∧ zs ++ ys = all,
        fun H' q => ⟨ds.length - (i + 1), by omega, rfl, hlt, q⟩, fun x H' hyl => ?_⟩
      have hd : ds[i]? = some ds[i] := List.getElem?_eq_getElem hlt
      rw [List.drop_eq_getElem_cons hlt] at hy
      obtain ⟨F3, e3, R3, r3⟩ : ∃ F3, Ex F μ H F3 μ H' ∧ Rl K G F3 μ S H' ∧ IsD K G F3 x ds[i] := by
        rcases it.yld i F H x H' ds[i] m1.ex.fr m1.rl.sub hd hyl with ⟨rfl, r⟩ | ⟨p, o, hp, rfl, r⟩
        · exact ⟨F, Ex.refl _ _ _, m1.rl, r⟩
        · exact ⟨_, Ex.anew m1.rl hp, m1.rl.anew hp, r⟩
      have m3 := m1.later e3 R3
      have hz3 := hz.mono e3.fr
      obtain ⟨ρ1, k, S4, g1, g2, g3⟩ := compL_inv hy
      refine qg x (.d ds[i]) (L2.wipe σ vs) H' ρ ρ1 F3 μ S _ R3 r3 (E1.mono m3.ex) g1 fun σ2 E2 b2 => ⟨(b2 vs hsl).trans (wipe_wipe fun _ z => z), ?_⟩
      refine qt σ2 H' ρ1 S F3 μ _ R3 E2 ?_
      rw [g2]
      intro b H4 F4 μ4 e4 R4 rb
      cases rb
      have m4 := m3.later e4 R4
      have hz4 := hz3.mono e4.fr
      rcases g3 with ⟨rfl, y, S5, ys', g4, g5, rfl⟩ | ⟨rfl, g4⟩
      · rw [if_pos rfl]
        refine qe σ2 H4 ρ1 S4 F4 μ4 _ R4 (E2.mono e4) ?_
        rw [g4]
        intro v H5 F5 μ5 e5 R5 r5
        have m5 := m4.later e5 R5
        refine ⟨acc, m5.at_, by rw [← lim_eq]; omega, acc ++ [v], zs ++ [y], F5, μ5, S5, m5.push hD, (hz4.mono e5.fr).append (.cons r5 .nil), by rw [List.length_append, List.length_singleton]; omega, ys', g5, by rw [List.append_assoc]; exact hall⟩
      · rw [if_neg Bool.false_ne_true]
        exact ⟨acc, zs, F4, μ4, S4, m4, hz4, by omega, ys, g4, hall⟩
    · have hi' : i = ds.length := by omega
      subst hi'
      rw [List.drop_length] at hy
      cases hy
      rw [List.append_nil] at hall
      subst hall
      exact .inl ⟨it.stop _ F H m1.ex.fr m1.rl.sub (Nat.le_refl _), hP acc F μ H m1 hz⟩
/-- what a comprehension tells: a datum, or a list that may be changed -/
theorem comp_read {wi : TI} {it : Ev → Sto → Out (List D)} {g : SemG} {sl vs : List Nat} {t : Option SemT} {f : SemE} {tg' : TG} {tt : TT} {te : TE} {σ : L2.St} {H : Hp} {ρ : Ev} {S : Sto} {F : Hp} {μ : List Addr} {Q : VK}
    (qi : ∀ σ H ρ S F μ R, Rl X.K G F μ S H → EnvIs X.K G F μ σ ρ → Run X.K G W σ F μ H (fun F' _ J ds => ItIs X.K G F' J ds) (it ρ S) R → wi σ H R)
    (qg : ∀ v u σ H ρ ρ' F μ S (Q : L2.St → Hp → Prop), Rl X.K G F μ S H → IsU X.K G F μ v u → EnvIs X.K G F μ σ ρ → g u ρ = some ρ' → (∀ σ', EnvIs X.K G F μ σ' ρ' → But sl σ σ' → Q σ' H) → tg' v σ H Q)
    (qt : ∀ σ H ρ S F μ Q, Rl X.K G F μ S H → EnvIs X.K G F μ σ ρ → Run X.K G (fun _ _ _ _ => False) σ F μ H relB (ifsS t ρ S) Q → tt σ H Q)
    (qe : ∀ σ H ρ S F μ Q, Rl X.K G F μ S H → EnvIs X.K G F μ σ ρ → Run X.K G (fun _ _ _ _ => False) σ F μ H (IsU X.K G) (f ρ S) Q → te σ H Q)
    (hsl : ∀ i ∈ sl, i ∈ vs) (R : Rl X.K G F μ S H) (E : EnvIs X.K G F μ σ ρ) {γ δ : Type} {rel : Hp → List Addr → δ → γ → Prop} {Q' : δ → Hp → Prop} {k : List D → Sto → Out γ}
    (h : Run X.K G W σ F μ H rel ((compS it g t f vs ρ S).bind k) Q')
    (hk : ∀ all Sz F' μ' H' p acc, Ex F μ H F' μ' H' → Rl X.K G F' μ' Sz H' → H' p = some (.lst acc) → F' p = none → p ∉ μ' → H p = none → IsDs X.K G F' acc all → Run X.K G W σ F μ H rel (k all Sz) Q' → Q (.ref p) H') : tLc wi tg' tt te vs σ H Q := by
  have h : Run X.K G W σ F μ H rel ((it ρ S).bind fun ds S1 => (if ds.length ≤ 16777216 then compL g t f (wipeE ρ vs) ds S1 else .bad).bind k) Q' := by
    unfold compS at h
    cases q : it ρ S <;> rw [q] at h <;> exact h
  refine qi σ H ρ S F μ _ R E (Run.bind h fun ds S1 J F1 μ1 H1 zq1 e1 R1 it1 h1 => fun Dn hDn => ?_)
  by_cases hl : ds.length ≤ 16777216
  · rw [if_pos hl] at h1
    cases q : compL g t f (wipeE ρ vs) ds S1 with
    | bad => rw [q] at h1; exact h1.elim
    | exc x S' => exact absurd q compL_nox
    | ok all Sz =>
      rw [q] at h1
      refine comp_run qg qt qe hsl it1 hl R1 ((E.mono e1).wipe vs) hDn q fun acc F2 μ2 H2 m2 hz => ?_
      have hn : H Dn = none := by
        cases z : H Dn with
        | none => rfl
        | some o =>
          by_cases hm : Dn ∈ μ
          · obtain ⟨o', ho'⟩ := R1.thr Dn (by obtain ⟨tl, et⟩ := e1.pre; rw [et]; exact List.mem_append_left _ hm)
            rw [hDn] at ho'; cases ho'
          · have := e1.keep Dn o z hm
            rw [hDn] at this; cases this
      refine hk all Sz F2 μ2 H2 Dn acc (e1.trans m2.ex) m2.rl m2.at_ m2.nF m2.nμ hn hz ?_
      -- back to the start
      have h' : Run X.K G W σ F μ H rel ((compS it g t f vs ρ S).bind k) Q' := by
        unfold compS
        cases q2 : it ρ S <;> rw [q2] at h <;> exact h
      have e2 : compS it g t f vs ρ S = .ok all Sz := by
        unfold compS
        rw [zq1]
        simp only [Out.bind_ok]
        rw [if_pos hl, q]
      rw [e2] at h'
      exact h'
  · rw [if_neg hl] at h1
    exact h1.elim
theorem ee_comp {scope : Scope} {own : List (Str × Nat)} {it : Ev → Sto → Out (List D)} {g : SemG} {sl : List Nat} {t : Option SemT} {f : SemE} (hc : X.calm = true) (hN : X.N.Nodup) (hi : EI X G W tg iter it) (ok : BlkOk X.N X.env.scope scope own)
    (hg : ∃ tg' : TG, (∀ (s : Shared) (H : Hp) (C : Addr) (cl : List (Str × Addr)) (fp : List Addr), PG (X.blk s H scope (compEnvC scope cl C X.env) fp) tg tg') ∧ ∀ v u σ H ρ ρ' F μ S (Q : L2.St → Hp → Prop), Rl X.K G F μ S H → IsU X.K G F μ v u → EnvIs X.K G F μ σ ρ → g u ρ = some ρ' → (∀ σ', EnvIs X.K G F μ σ' ρ' → But sl σ σ' → Q σ' H) → tg' v σ H Q)
    (ht : ∃ tt : TT, (∀ (s : Shared) (H : Hp) (C : Addr) (cl : List (Str × Addr)) (fp : List Addr), PTs (X.blk s H scope (compEnvC scope cl C X.env) fp) ifs tt) ∧ ∀ σ H ρ S F μ Q, Rl X.K G F μ S H → EnvIs X.K G F μ σ ρ → Run X.K G (fun _ _ _ _ => False) σ F μ H relB (ifsS t ρ S) Q → tt σ H Q)
    (he : ∃ te : TE, (∀ (s : Shared) (H : Hp) (C : Addr) (cl : List (Str × Addr)) (fp : List Addr), PE (X.blk s H scope (compEnvC scope cl C X.env) fp) elt te) ∧ ∀ σ H ρ S F μ Q, Rl X.K G F μ S H → EnvIs X.K G F μ σ ρ → Run X.K G (fun _ _ _ _ => False) σ F μ H (IsU X.K G) (f ρ S) Q → te σ H Q)
    (hsl : ∀ i ∈ sl, i ∈ own.map (·.2)) (hs : setless iter = true) :
    EE X G W (.ListComp elt [⟨tg, iter, ifs, 0⟩] scope pos) (fun ρ S => (compS it g t f (own.map (·.2)) ρ S).bind fun ys S1 => .ok (.d (.lst ys)) S1) ∧
    EE X G W (.ListComp elt [⟨tg, iter, ifs, 0⟩] scope pos) (fun ρ S => (compS it g t f (own.map (·.2)) ρ S).bind fun ys S1 => .ok (.r S1.length) (S1 ++ [.lst ys])) := by
  obtain ⟨wi, pi, qi⟩ := hi.ex
  obtain ⟨tg', pg, qg⟩ := hg
  obtain ⟨tt, pt, qt⟩ := ht
  obtain ⟨te, pe, qe⟩ := he
  refine ⟨⟨_, pe_lc hc hN pi ok pg pt pe (folded_c hs _), fun σ H ρ S F μ Q R E h => ?_⟩, ⟨_, pe_lc hc hN pi ok pg pt pe (folded_c hs _), fun σ H ρ S F μ Q R E h => ?_⟩⟩
  · exact comp_read qi qg qt qe hsl R E h fun all Sz F' μ' H' p acc e' R' hp hF hμ hn hz h' => h' _ _ _ _ (e'.adopt hn hF) (R'.adopt hp hF hμ) (IsD.lst upd_same (hz.mono (same_new hF)))
  · exact comp_read qi qg qt qe hsl R E h fun all Sz F' μ' H' p acc e' R' hp hF hμ hn hz h' => h' _ _ _ _ (e'.adoptR hn) (R'.adoptR hp hF hμ ⟨acc, hp, hz⟩) ⟨p, by rw [← R'.len, List.getElem?_append_right (Nat.le_refl _)]; simp, rfl⟩
end
end Pq

namespace Pq
open PySem PySem.Spec PyProof.Rows L2

/-! ### readings that hang on the meaning alone -/
def canE (K : PySem.W.Frag) (G : Tab) (W : WX) (f : SemE) : TE := fun σ H Q => ∃ ρ S F μ, Rl K G F μ S H ∧ EnvIs K G F μ σ ρ ∧ Run K G W σ F μ H (IsU K G) (f ρ S) Q
def canT (K : PySem.W.Frag) (G : Tab) (W : WX) (f : SemT) : TT := fun σ H Q => ∃ ρ S F μ, Rl K G F μ S H ∧ EnvIs K G F μ σ ρ ∧ Run K G W σ F μ H relB (f ρ S) Q
def canG (K : PySem.W.Frag) (G : Tab) (g : SemG) (sl : List Nat) : TG := fun v σ H Q => ∃ u ρ ρ' F μ S, Rl K G F μ S H ∧ IsU K G F μ v u ∧ EnvIs K G F μ σ ρ ∧ g u ρ = some ρ' ∧ ∀ σ', EnvIs K G F μ σ' ρ' → But sl σ σ' → Q σ' H
section
variable {X : Cx} {G : Tab} {W : WX} {tg a b c e o elt iter : Expr} {ifs : List Expr} {es : List Expr} {pos : Pos} {fa fb : SemE} {st : Stmt} {n : Nat}
theorem EE.can {f : SemE} (h : EE X G W e f) : PE X e (canE X.K G W f) := by
  obtain ⟨t, p, q⟩ := h.ex
  exact ⟨fun pins s σ H Q I ⟨ρ, S, F, μ, R, E, r⟩ => p.run pins s σ H Q I (q σ H ρ S F μ Q R E r)⟩
theorem ET.can {f : SemT} (h : ET X G W e f) : PT X e (canT X.K G W f) := by
  obtain ⟨t, p, q⟩ := h.ex
  exact ⟨fun pins s σ H Q I ⟨ρ, S, F, μ, R, E, r⟩ => p.run pins s σ H Q I (q σ H ρ S F μ Q R E r)⟩
theorem EG.can {g : SemG} {sl : List Nat} (h : EG X G e g sl) : PG X e (canG X.K G g sl) := by
  obtain ⟨t, p, q⟩ := h.ex
  exact ⟨fun pins s σ H v u Q I r ⟨u', ρ, ρ', F, μ, S, R, ru, E, hg, k⟩ => p.run pins s σ H v u Q I r (q v u' σ H ρ ρ' F μ S Q R ru E hg k)⟩
inductive EIfB (X : Cx) (G : Tab) (scope : Scope) : List Expr → Option SemT → Prop
  | none : EIfB X G scope [] none
  | some {c : Expr} {t : SemT} (h : ∀ (s : Shared) (H : Hp) (C : Addr) (cl : List (Str × Addr)) (fp : List Addr), ET (X.blk s H scope (compEnvC scope cl C X.env) fp) G (fun _ _ _ _ => False) c t) : EIfB X G scope [c] (some t)
theorem ee_compB {scope : Scope} {own : List (Str × Nat)} {it : Ev → Sto → Out (List D)} {g : SemG} {sl : List Nat} {t : Option SemT} {f : SemE} (hc : X.calm = true) (hN : X.N.Nodup) (hi : EI X G W tg iter it) (ok : BlkOk X.N X.env.scope scope own)
    (hg : ∀ (s : Shared) (H : Hp) (C : Addr) (cl : List (Str × Addr)) (fp : List Addr), EG (X.blk s H scope (compEnvC scope cl C X.env) fp) G tg g sl)
    (ht : EIfB X G scope ifs t)
    (he : ∀ (s : Shared) (H : Hp) (C : Addr) (cl : List (Str × Addr)) (fp : List Addr), EE (X.blk s H scope (compEnvC scope cl C X.env) fp) G (fun _ _ _ _ => False) elt f)
    (hsl : ∀ i ∈ sl, i ∈ own.map (·.2)) (hs : setless iter = true) :
    EE X G W (.ListComp elt [⟨tg, iter, ifs, 0⟩] scope pos) (fun ρ S => (compS it g t f (own.map (·.2)) ρ S).bind fun ys S1 => .ok (.d (.lst ys)) S1) ∧
    EE X G W (.ListComp elt [⟨tg, iter, ifs, 0⟩] scope pos) (fun ρ S => (compS it g t f (own.map (·.2)) ρ S).bind fun ys S1 => .ok (.r S1.length) (S1 ++ [.lst ys])) := by
  refine ee_comp hc hN hi ok ⟨canG X.K G g sl, fun s H C cl fp => (hg s H C cl fp).can, fun v u σ H ρ ρ' F μ S Q R r E e k => ⟨u, ρ, ρ', F, μ, S, R, r, E, e, k⟩⟩ ?_
    ⟨canE X.K G (fun _ _ _ _ => False) f, fun s H C cl fp => (he s H C cl fp).can, fun σ H ρ S F μ Q R E h => ⟨ρ, S, F, μ, R, E, h⟩⟩ hsl hs
  cases ht with
  | none => exact ⟨tYes, fun s H C cl fp => pts_nil, fun σ H ρ S F μ Q R E h => Run.now h R rfl⟩
  | some h => exact ⟨canT X.K G (fun _ _ _ _ => False) _, fun s H C cl fp => pts_one (h s H C cl fp).can, fun σ H ρ S F μ Q R E h => ⟨ρ, S, F, μ, R, E, h⟩⟩

/-! ### a thing that stands for good from here on -/
def frzU (u : U) (S : Sto) : Out U := match u with
  | .d x => .ok (.d x) S
  | .r k => match S[k]? with
    | some (.lst ds) => .ok (.d (.lst ds)) (S.set k .dead)
    | some (.dct kvs) => .ok (.d (.dct (kvs.map (·.1)) (kvs.map (·.2)))) (S.set k .dead)
    | _ => .bad
def frzS (f : SemE) : SemE := fun ρ S => (f ρ S).bind frzU
theorem ee_frz (h : EE X G W e fa) : EE X G W e (frzS fa) := by
  obtain ⟨t, p, q⟩ := h.ex
  refine ⟨t, p, fun σ H ρ S F μ Q R E h => ?_⟩
  refine q σ H ρ S F μ _ R E (Run.bind h fun u S1 v F1 μ1 H1 zq1 e1 R1 r1 h1 => ?_)
  unfold frzU at h1
  cases u with
  | d x => exact h1.now R1 r1
  | r k =>
    obtain ⟨p, hμ, rfl⟩ := r1
    cases es : S1[k]? with
    | none => simp only [es] at h1; exact h1.elim
    | some ob =>
      cases ob with
      | dead => simp only [es] at h1; exact h1.elim
      | lst ds =>
        simp only [es] at h1
        obtain ⟨hF, vs, hp, hs⟩ := R1.obj k p _ hμ es (by intro z; cases z)
        exact h1 _ _ _ _ (Ex.freeze (ho := .lst vs) R1 hμ es (by intro z; cases z)) (R1.freeze hμ es (by intro z; cases z) hp) (IsD.lst upd_same (hs.mono (same_new hF)))
      | dct kvs =>
        simp only [es] at h1
        obtain ⟨hF, kws, hp, hk, hs⟩ := R1.obj k p _ hμ es (by intro z; cases z)
        exact h1 _ _ _ _ (Ex.freeze (ho := .dK kws) R1 hμ es (by intro z; cases z)) (R1.freeze hμ es (by intro z; cases z) hp) (IsD.dct (.inl upd_same) hk (hs.mono (same_new hF)))

/-! ### names forgotten, and things that no name holds -/
def dropE (ρ : Ev) : List Nat → Ev
  | [] => ρ
  | v :: vs => dropE (ρ.set v none) vs
def endE : Ev → Nat
  | [] => 0
  | some (.r k) :: ρ => max (k + 1) (endE ρ)
  | _ :: ρ => endE ρ
theorem endE_lt : ∀ {ρ : Ev} {i k : Nat}, ρ[i]? = some (some (.r k)) → k < endE ρ
  | [], _, _, h => by simp at h
  | u :: ρ, 0, k, h => by
    simp at h
    subst h
    show k < max (k + 1) (endE ρ)
    omega
  | u :: ρ, i + 1, k, h => by
    have ih := endE_lt (ρ := ρ) (i := i) (k := k) (by simpa using h)
    cases u with
    | none => exact ih
    | some u =>
      cases u with
      | d x => exact ih
      | r j => show k < max (j + 1) (endE ρ); omega
def gcS (n : Nat) (ks : List Nat) (f : SemS) : SemS := fun ρ S => match f ρ S with
  | .ok (.nx ρ') S' => .ok (.nx (dropE ρ' ks)) (S'.take (max n (endE (dropE ρ' ks))))
  | o => o
theorem EnvIs.drop {K : PySem.W.Frag} {F : Hp} {μ : List Addr} {σ : L2.St} : ∀ {ks : List Nat} {ρ : Ev}, EnvIs K G F μ σ ρ → EnvIs K G F μ σ (dropE ρ ks)
  | [], _, h => h
  | k :: ks, ρ, h => by
    show EnvIs K G F μ σ (dropE (ρ.set k none) ks)
    exact EnvIs.drop (h.unset k)
theorem Rl.take {K : PySem.W.Frag} {F H : Hp} {μ : List Addr} {S : Sto} (R : Rl K G F μ S H) (m : Nat) : Rl K G F (μ.take m) (S.take m) H where
  sub := R.sub
  len := by simp [R.len]
  obj := fun k a o h hs hd => by
    rw [List.getElem?_take] at h hs
    split at h
    · rename_i hk
      rw [if_pos hk] at hs
      exact R.obj k a o h hs hd
    · cases h
  inj := fun j k a p q hj hk hsj hsk hd hd' => by
    rw [List.getElem?_take] at hj hk hsj hsk
    split at hj
    · rename_i h1
      split at hk
      · rename_i h2
        rw [if_pos h1] at hsj
        rw [if_pos h2] at hsk
        exact R.inj j k a p q hj hk hsj hsk hd hd'
      · cases hk
    · cases hj
  thr := fun a ha => R.thr a (List.mem_of_mem_take ha)
theorem ss_gc (ks : List Nat) {f : SemS} (h : SS X G W n st f) : SS X G W n st (gcS n ks f) := by
  obtain ⟨t, p, q⟩ := h.ex
  refine ⟨t, p, fun σ H ρ S F μ D R E hn h => q σ H ρ S F μ D R E hn ?_⟩
  unfold gcS at h
  cases e : f ρ S with
  | bad => rw [e] at h; exact h
  | exc x S' => rw [e] at h; exact h
  | ok fl S' =>
    rw [e] at h
    cases fl with
    | rt u => exact h
    | bk u => exact h
    | ct u => exact h
    | nx ρ' =>
      intro σ' H' F' μ' e' R' E'
      have E2 := E'.drop (ks := ks)
      refine h σ' H' F' (μ'.take (max n (endE (dropE ρ' ks)))) ⟨e'.fr, ?_, ?_, e'.keep, e'.new, fun b hb => e'.newμ b (List.mem_of_mem_take hb)⟩ (R'.take _) ⟨E2.1, fun i u hi => ?_⟩
      · have := e'.low
        rw [List.length_take]
        omega
      · rw [List.take_take, Nat.min_eq_left (Nat.le_max_left _ _)]
        exact e'.pre
      · obtain ⟨v, h1, h2⟩ := E2.2 i u hi
        refine ⟨v, h1, ?_⟩
        cases u with
        | d x => exact h2
        | r k =>
          obtain ⟨a, h3, h4⟩ := h2
          have := endE_lt hi
          exact ⟨a, by rw [List.getElem?_take_of_lt (by omega)]; exact h3, h4⟩

/-! ### a, b, c = x, y, z -/
def par3S (i j l : Nat) (g : SemA) : SemS := fun ρ S => (g ρ S).bind fun us S1 => match us with
  | [u, w, z] => .ok (.nx (((ρ.set i (some u)).set j (some w)).set l (some z))) S1
  | _ => .bad
theorem ss_par3 {i j l : Nat} {x y z : Str} {px py pz pt : Pos} {kt k2 : Nat} {pt2 : Pos} {ga : SemA} (hc : X.calm = true) (hN : X.N.Nodup) (hi : X.N[i]? = some x) (hj : X.N[j]? = some y) (hl : X.N[l]? = some z) (hij : i ≠ j) (hil : i ≠ l) (hjl : j ≠ l)
    (hx : X.env.scope.names.lookup x = some .local) (hy : X.env.scope.names.lookup y = some .local) (hz : X.env.scope.names.lookup z = some .local) (ha : EA X G W [a, b, c] ga)
    (hw : swappedStores [.Tuple [.Name x px, .Name y py, .Name z pz] kt pt] (.Tuple [a, b, c] k2 pt2) X.env = pure (some [x, y, z])) :
    SS X G W n (.Assign [.Tuple [.Name x px, .Name y py, .Name z pz] kt pt] (.Tuple [a, b, c] k2 pt2) pos) (par3S i j l ga) := by
  obtain ⟨t, p, q⟩ := ha.ex
  refine ⟨_, ps_par3 hc hN hi hj hl hij hil hjl hx hy hz p hw rfl, fun σ H ρ S F μ D R E hn h => ?_⟩
  refine q σ H ρ S F μ _ R E (SRun.bindE hn h fun us S1 vs F1 μ1 H1 zq1 e1 R1 r1 hn1 h1 => ?_)
  cases r1 with
  | nil => exact h1.elim
  | cons ra r1 =>
    cases r1 with
    | nil => exact h1.elim
    | cons rb r1 =>
      cases r1 with
      | nil => exact h1.elim
      | cons rc r1 =>
        cases r1 with
        | nil => exact ⟨_, _, _, rfl, h1 _ H1 F1 μ1 (Ez.refl hn1) R1 ((((E.mono e1).set ra i).set rb j).set rc l)⟩
        | cons _ _ => exact h1.elim

/-! ### name = [..] -/
theorem ss_setComp {scope : Scope} {own : List (Str × Nat)} {it : Ev → Sto → Out (List D)} {g : SemG} {sl : List Nat} {t : Option SemT} {f : SemE} {i : Nat} {y : Str} {py spos : Pos} (hc : X.calm = true) (hN : X.N.Nodup)
    (hy : X.N[i]? = some y) (hyl : X.env.scope.names.lookup y = some .local) (hsw : swapsWith (.ListComp elt [⟨tg, iter, ifs, 0⟩] scope pos) (some (.Name y py)) spos.line X.env = pure true)
    (hi : EI X G W tg iter it) (ok : BlkOk X.N X.env.scope scope own)
    (hg : ∀ (s : Shared) (H : Hp) (C : Addr) (cl : List (Str × Addr)) (fp : List Addr), EG (X.blk s H scope (compEnvC scope cl C X.env) fp) G tg g sl)
    (ht : EIfB X G scope ifs t)
    (he : ∀ (s : Shared) (H : Hp) (C : Addr) (cl : List (Str × Addr)) (fp : List Addr), EE (X.blk s H scope (compEnvC scope cl C X.env) fp) G (fun _ _ _ _ => False) elt f)
    (hsl : ∀ i ∈ sl, i ∈ own.map (·.2)) (hs : setless iter = true) :
    SS X G W n (.Assign [.Name y py] (.ListComp elt [⟨tg, iter, ifs, 0⟩] scope pos) spos) (setS i fun ρ S => (compS it g t f (own.map (·.2)) ρ S).bind fun ys S1 => .ok (.d (.lst ys)) S1) ∧
    SS X G W n (.Assign [.Name y py] (.ListComp elt [⟨tg, iter, ifs, 0⟩] scope pos) spos) (setS i fun ρ S => (compS it g t f (own.map (·.2)) ρ S).bind fun ys S1 => .ok (.r S1.length) (S1 ++ [.lst ys])) := by
  obtain ⟨wi, pi, qi⟩ := hi.ex
  obtain ⟨tt, pt, qt⟩ : ∃ tt : TT, (∀ (s : Shared) (H : Hp) (C : Addr) (cl : List (Str × Addr)) (fp : List Addr), PTs (X.blk s H scope (compEnvC scope cl C X.env) fp) ifs tt) ∧ ∀ σ H ρ S F μ Q, Rl X.K G F μ S H → EnvIs X.K G F μ σ ρ → Run X.K G (fun _ _ _ _ => False) σ F μ H relB (ifsS t ρ S) Q → tt σ H Q := by
    cases ht with
    | none => exact ⟨tYes, fun s H C cl fp => pts_nil, fun σ H ρ S F μ Q R E h => Run.now h R rfl⟩
    | some h => exact ⟨canT X.K G (fun _ _ _ _ => False) _, fun s H C cl fp => pts_one (h s H C cl fp).can, fun σ H ρ S F μ Q R E h => ⟨ρ, S, F, μ, R, E, h⟩⟩
  have pg : ∀ (s : Shared) (H : Hp) (C : Addr) (cl : List (Str × Addr)) (fp : List Addr), PG (X.blk s H scope (compEnvC scope cl C X.env) fp) tg (canG X.K G g sl) := fun s H C cl fp => (hg s H C cl fp).can
  have pe : ∀ (s : Shared) (H : Hp) (C : Addr) (cl : List (Str × Addr)) (fp : List Addr), PE (X.blk s H scope (compEnvC scope cl C X.env) fp) elt (canE X.K G (fun _ _ _ _ => False) f) := fun s H C cl fp => (he s H C cl fp).can
  have P := ps_setLc hc hN hy hyl hsw pi ok pg pt pe (folded_c hs _)
  have fin : ∀ {σ : L2.St} {H : Hp} {ρ : Ev} {S : Sto} {F : Hp} {μ : List Addr} {Z : Ends} (k : List D → Sto → Out U), Rl X.K G F μ S H → EnvIs X.K G F μ σ ρ → n ≤ μ.length →
      (∀ all Sz F' μ' H' p acc, Ex F μ H F' μ' H' → Rl X.K G F' μ' Sz H' → H' p = some (.lst acc) → F' p = none → p ∉ μ' → H p = none → IsDs X.K G F' acc all → ∃ u Sy F'' μ'', k all Sz = .ok u Sy ∧ Ex F μ H F'' μ'' H' ∧ Rl X.K G F'' μ'' Sy H' ∧ IsU X.K G F'' μ'' (.ref p) u) →
      SRun X.K G W n F μ H (setS i (fun ρ S => (compS it g t f (own.map (·.2)) ρ S).bind k) ρ S) Z →
      tAsg (tLc wi (canG X.K G g sl) tt (canE X.K G (fun _ _ _ _ => False) f) (own.map (·.2))) (gName i) Z σ H := by
    intro σ H ρ S F μ Z k R E hn hk h
    have h' : Run X.K G W σ F μ H (fun F' μ' (v : V) u => IsU X.K G F' μ' v u) ((compS it g t f (own.map (·.2)) ρ S).bind k) (fun v H' => Z.nx (σ.set i (some v)) H') := by
      unfold setS at h
      have h : SRun X.K G W n F μ H (((compS it g t f (own.map (·.2)) ρ S).bind k).bind fun u S1 => .ok (.nx (ρ.set i (some u))) S1) Z := h
      exact SRun.bindE hn h fun u S1 v F1 μ1 H1 zq1 e1 R1 r1 hn1 h1 => h1 _ H1 F1 μ1 (Ez.refl hn1) R1 ((E.mono e1).set r1 i)
    refine comp_read qi (fun v u σ H ρ ρ' F μ S Q R r E e k => ⟨u, ρ, ρ', F, μ, S, R, r, E, e, k⟩) qt (fun σ H ρ S F μ Q R E h => ⟨ρ, S, F, μ, R, E, h⟩) hsl R E h' fun all Sz F' μ' H' p acc e' R' hp hF hμ hn' hz h2 => ?_
    obtain ⟨u, Sy, F'', μ'', q1, q2, q3, q4⟩ := hk all Sz F' μ' H' p acc e' R' hp hF hμ hn' hz
    rw [q1] at h2
    exact h2 (.ref p) H' F'' μ'' q2 q3 q4
  refine ⟨⟨_, P, fun σ H ρ S F μ D R E hn h => fin _ R E hn (fun all Sz F' μ' H' p acc e' R' hp hF hμ hn' hz => ?_) h⟩, ⟨_, P, fun σ H ρ S F μ D R E hn h => fin _ R E hn (fun all Sz F' μ' H' p acc e' R' hp hF hμ hn' hz => ?_) h⟩⟩
  · exact ⟨_, _, _, _, rfl, e'.adopt hn' hF, R'.adopt hp hF hμ, IsD.lst upd_same (hz.mono (same_new hF))⟩
  · exact ⟨_, _, _, _, rfl, e'.adoptR hn', R'.adoptR hp hF hμ ⟨acc, hp, hz⟩, ⟨p, by rw [← R'.len, List.getElem?_append_right (Nat.le_refl _)]; simp, rfl⟩⟩
end

/-! ### what a def promises -/
abbrev SemF := Sto → List U → Out U
def exitS (n : Nat) (o : Out Fl) : Out U := match o with
  | .ok (.rt (.d x)) S' => .ok (.d x) (S'.take n)
  | .ok (.rt (.r k)) S' => if k < n then .ok (.r k) (S'.take n) else (match S'[k]? with
    | some ob => .ok (.r n) (S'.take n ++ [ob])
    | none => .bad)
  | .ok (.nx _) S' => .ok (.d .non) (S'.take n)
  | .exc x S' => .exc x (S'.take n)
  | _ => .bad
def fnS (ar nloc : Nat) (body : Nat → SemS) : SemF := fun S us => if us.length = ar then exitS S.length (body S.length (us.map some ++ List.replicate (nloc - ar) none) S) else .bad
def spF (K : PySem.W.Frag) (G : Tab) (ar : Nat) (f : SemF) : Sp := fun vs H Q E => vs.length = ar ∧ ∃ F μ S us, Rl K G F μ S H ∧ IsUs K G F μ vs us ∧ Run K G (fun c d _ H' => E c d H') [] F μ H (IsU K G) (f S us) Q
section
variable {K : PySem.W.Frag} {G : Tab} {F H F' H' : Hp} {μ μ' : List Addr} {S : Sto}
theorem IsUs.length {vs : List V} {us : List U} (h : IsUs K G F μ vs us) : vs.length = us.length := by
  induction h with
  | nil => rfl
  | cons _ _ ih => simp [ih]
theorem IsUs.get : ∀ {vs : List V} {us : List U} {i : Nat} {u : U}, IsUs K G F μ vs us → us[i]? = some u → ∃ v, vs[i]? = some v ∧ IsU K G F μ v u
  | _, _, _, _, .nil, e => by simp at e
  | _, _, 0, _, .cons h _, e => by simp at e; subst e; exact ⟨_, rfl, h⟩
  | _, _, i + 1, u, .cons _ t, e => by
    obtain ⟨v, h1, h2⟩ := IsUs.get (i := i) (u := u) t (by simpa using e)
    exact ⟨v, by simpa using h1, h2⟩
theorem env_start {N : List Str} {vs : List V} {us : List U} (h : IsUs K G F μ vs us) (hl : us.length ≤ N.length) : EnvIs K G F μ (L2.start N vs) (us.map some ++ List.replicate (N.length - us.length) none) := by
  have hv := h.length
  refine ⟨?_, fun i u hi => ?_⟩
  · unfold L2.start
    simp [hv]
  · by_cases hlt : i < us.length
    · rw [List.getElem?_append_left (by simpa using hlt), List.getElem?_map] at hi
      cases e : us[i]? with
      | none => rw [e] at hi; cases hi
      | some w =>
        rw [e] at hi
        cases hi
        obtain ⟨v, h1, h2⟩ := h.get e
        refine ⟨v, ?_, h2⟩
        unfold L2.start
        rw [List.getElem?_append_left (by simp; omega), List.getElem?_map, h1]
        rfl
    · rw [List.getElem?_append_right (by simp; omega), List.getElem?_replicate] at hi
      split at hi <;> cases hi
theorem Rl.pick (R : Rl K G F μ S H) {n k : Nat} {a : Addr} {o : O} (hn : n ≤ k) (h : μ[k]? = some a) (hs : S[k]? = some o) (hnl : n ≤ μ.length) : Rl K G F (μ.take n ++ [a]) (S.take n ++ [o]) H := by
  have T := R.take n
  have l1 : (μ.take n).length = n := by simp; omega
  have l2 : (S.take n).length = n := by rw [← T.len]; exact l1
  have split1 : ∀ (i : Nat) (b : Addr) (q : O), (μ.take n ++ [a])[i]? = some b → (S.take n ++ [o])[i]? = some q → (i < n ∧ μ[i]? = some b ∧ S[i]? = some q) ∨ (i = n ∧ b = a ∧ q = o) := fun i b q h1 h2 => by
    by_cases hi : i < n
    · rw [List.getElem?_append_left (by omega), List.getElem?_take_of_lt hi] at h1
      rw [List.getElem?_append_left (by omega), List.getElem?_take_of_lt hi] at h2
      exact .inl ⟨hi, h1, h2⟩
    · have e : i = n := by
        have := (List.getElem?_eq_some_iff.mp h1).1
        simp at this; omega
      subst e
      rw [List.getElem?_append_right (by omega)] at h1 h2
      simp [l1] at h1
      simp [l2] at h2
      exact .inr ⟨rfl, h1.symm, h2.symm⟩
  refine ⟨R.sub, by simp [l1, l2], fun i b q h1 h2 hd => ?_, fun i j b p q h1 h2 h3 h4 hd hd' => ?_, fun b hb => ?_⟩
  · rcases split1 i b q h1 h2 with ⟨_, h1, h2⟩ | ⟨_, rfl, rfl⟩
    · exact R.obj i b q h1 h2 hd
    · exact R.obj k _ _ h hs hd
  · rcases split1 i b p h1 h3 with ⟨hi, g1, g3⟩ | ⟨i1, b1, p1⟩
    · rcases split1 j b q h2 h4 with ⟨_, g2, g4⟩ | ⟨j1, b2, q1⟩
      · exact R.inj i j b p q g1 g2 g3 g4 hd hd'
      · have := R.inj i k b p o g1 (b2 ▸ h) g3 hs hd (q1 ▸ hd')
        omega
    · rcases split1 j b q h2 h4 with ⟨hj, g2, g4⟩ | ⟨j1, _, _⟩
      · have := R.inj k j b o q (b1 ▸ h) g2 hs g4 (p1 ▸ hd) hd'
        omega
      · rw [i1, j1]
  · rcases List.mem_append.mp hb with hb | hb
    · exact T.thr b hb
    · have : b = a := by simpa using hb
      subst this
      exact R.thr _ (List.mem_of_getElem? h)
theorem Ez.exit (e : Ez μ.length F μ H F' μ' H') : Ex F μ H F' (μ'.take μ.length) H' :=
  ⟨e.fr, ⟨[], by rw [e.pre, List.take_length, List.append_nil]⟩, e.keep, e.new, fun b hb => e.newμ b (List.mem_of_mem_take hb)⟩
theorem exit_run {E : XK} {Q : VK} {o : Out Fl} (hS : S.length = μ.length) (h : Run K G (fun c d _ H' => E c d H') [] F μ H (IsU K G) (exitS S.length o) Q) : SRun K G (fun c d _ H' => E c d H') μ.length F μ H o { nx := fun _ H' => Q .non H', rt := Q } := by
  rw [hS] at h
  cases o with
  | bad => exact h
  | exc x S' => exact fun cls dd σ' H' F' μ' e R r => h cls dd H' F' _ e.exit (R.take _) r
  | ok fl S' =>
    cases fl with
    | nx ρ => exact fun σ' H' F' μ' e R r => h .non H' F' _ e.exit (R.take _) IsD.non
    | bk ρ => exact h.elim
    | ct ρ => exact h.elim
    | rt u =>
      cases u with
      | d x => exact fun v H' F' μ' e R r => h v H' F' _ e.exit (R.take _) r
      | r k =>
        intro v H' F' μ' e R r
        obtain ⟨a, h1, rfl⟩ := r
        unfold exitS at h
        by_cases hk : k < μ.length
        · simp only [hk, if_true] at h
          exact h (.ref a) H' F' _ e.exit (R.take _) ⟨a, by rw [List.getElem?_take_of_lt hk]; exact h1, rfl⟩
        · simp only [hk, if_false] at h
          cases es : S'[k]? with
          | none => simp only [es] at h; exact h.elim
          | some ob =>
            simp only [es] at h
            have l1 : (μ'.take μ.length).length = μ.length := by have := e.low; simp; omega
            refine h (.ref a) H' F' (μ'.take μ.length ++ [a]) ⟨e.fr, ⟨[a], by rw [e.pre, List.take_length]⟩, e.keep, e.new, fun b hb => ?_⟩ (R.pick (by omega) h1 es e.low) ⟨a, by rw [List.getElem?_append_right (by omega), l1]; simp, rfl⟩
            rcases List.mem_append.mp hb with hb | hb
            · exact e.newμ b (List.mem_of_mem_take hb)
            · have : b = a := by simpa using hb
              subst this
              exact e.newμ _ (List.mem_of_getElem? h1)
end
/-- a def's body keeps its promise -/
theorem fn_ok {P : Program} {w : World} {K : PySem.W.Frag} {mg : Str → Option Value} {base : Heap} {G : Tab} {x qual : Str} {st : Stmt} {f : Addr} {fd : FuncData} {N ps : List Str} {k : Nat} {body : Nat → SemS} (F : Fun K x qual st f fd) (Sc : FnScope N ps (defScope st))
    (hb : ∀ (X : Cx) (W : WX) (n : Nat), X.prog = P → X.w = w → X.K = K → X.mg = mg → X.base = base → X.N = N → X.env.scope = defScope st → X.calm = true → (∀ y, X.fn y = true) → X.stack = X.env :: X.outer → X.env.frame = some X.env.locals → Room k X.A → Takes X W → PassesOwn (model X.prog X.w) X.A X.env X.xe →
      SSs X G W n (defBody st) (body n)) : FnOk P w K mg base (L2.CX P w) (k + 1) f fd ps (spF K G ps.length (fnS ps.length N.length body)) := by
  have hpl : ps.length ≤ N.length := by have := congrArg List.length Sc.pre; rw [List.length_take] at this; omega
  refine F.okX Sc (fun vs H Q E h => h.1) fun cdv A outer s H vs Q E hr h => ?_
  obtain ⟨hl, F0, μ, S, us, R, r, h⟩ := h
  have hus : us.length = ps.length := by rw [← r.length]; exact hl
  unfold fnS at h
  rw [if_pos hus] at h
  obtain ⟨t, p, q⟩ := (hb (cxOf (L2.CX P w) P w K mg base N qual (defScope st) f cdv A outer s H E) (fun c d _ H' => E c d H') S.length rfl rfl rfl rfl rfl rfl rfl rfl (fun _ => rfl) rfl rfl hr (takes_of rfl rfl rfl rfl) (passes_of rfl)).ex
  refine ⟨t, p, q (L2.start N vs) H (us.map some ++ List.replicate (N.length - ps.length) none) S F0 μ _ R ?_ (Nat.le_of_eq R.len.symm) ?_⟩
  · rw [← hus]
    exact env_start r (by omega)
  · have := exit_run (K := K) (G := G) R.len.symm h
    rw [← R.len]
    rw [← R.len] at this
    exact this
section
variable {X : Cx} {G : Tab} {W : WX} {e : Expr} {es : List Expr} {pos p : Pos} {x : Str} {ga : SemA} {k ar : Nat} {f : Addr} {fd : FuncData} {ps : List Str} {sem : SemF}
theorem ee_call (Fk : FnOk X.prog X.w X.K X.mg X.base (L2.CX X.prog X.w) k f fd ps (spF X.K G ar sem)) (har : ∀ S us, us.length ≠ ar → sem S us = .bad) (hr : Room k X.A) (hg : Gl X x) (hm : X.mg x = some (.ref f)) (hk : PySem.W.keepIn X.K (.ref f) = true) (hb : Binds X.K fd ps [])
    (tk : Takes X W) (ha : EA X G W (e :: es) ga) (hs : (e :: es).all starless = true) (hdb : (x == ("__debug__" : Str)) = false) : EE X G W (.Call (.Name x p) (e :: es) [] pos) (fun ρ S => (ga ρ S).bind fun us S1 => sem S1 us) := by
  obtain ⟨t, pa, qa⟩ := ha.ex
  simp only [List.all_cons, Bool.and_eq_true] at hs
  refine ⟨_, pe_callS Fk hr hg hm hk hb (fun σ => passAt tk σ) pa hdb (starEach_c hs.1 _ _) (starless_any hs.2), fun σ H ρ S F μ Q R E h => ?_⟩
  refine qa σ H ρ S F μ _ R E (Run.bind h fun us S1 vs F1 μ1 H1 zq1 e1 R1 r1 h1 => ?_)
  have hu : us.length = ar := by
    by_cases q : us.length = ar
    · exact q
    · rw [har S1 us q] at h1; exact h1.elim
  refine ⟨by rw [r1.length]; exact hu, F1, μ1, S1, us, R1, r1, ?_⟩
  cases q : sem S1 us <;> rw [q] at h1 <;> exact h1
theorem fnS_ar {ar nloc : Nat} {body : Nat → SemS} : ∀ S us, us.length ≠ ar → fnS ar nloc body S us = .bad := fun S us h => by
  unfold fnS
  rw [if_neg h]

/-! ### raise X() -/
theorem pmk_own0 {C : Addr} {bmB : List Value} {B newId initId : String} (F : ExcBaseFacts B newId initId bmB) (q : PySem.W.excIn X.K C bmB newId = true) (gC : X.mg x = some (.ref C)) (kC : PySem.W.keepIn X.K (.ref C) = true) (r : Raises X (.ref C)) (hg : Gl X x) (hdb : (x == ("__debug__" : Str)) = false) :
    PMk X (.Call (.Name x p) [] [] pos) (fun _ H Q => Q (.ref C) none H) := by
  intro pins s σ H Q I h
  refine wpAny_Call_Name_kw (ld_glob I hg gC ?_ hdb)
  refine PySem.W.callWith_K0 I.kIn kC ?_
  obtain ⟨bm, N, nm, qn, bs, hdct, sn, sub, ab, col, dd, k0, k1, k2, k3, k5, mN, hC, hN, hni, T⟩ := exc_obj I.kIn q
  exact wpAny_call_exc_subT F T hC hN hni (fun h' e hm => mk_of I hm r h (I.hok.gone hm.new)) (Nat.zero_le _)
def raiseS (c : Nat) : SemS := fun _ S => .exc ⟨c, []⟩ S
theorem ss_raise {n c : Nat} {C : Addr} {bmB : List Value} {B newId initId : String} {p2 : Pos} (hcl : G.cls c = C) (F : ExcBaseFacts B newId initId bmB) (q : PySem.W.excIn X.K C bmB newId = true) (gC : X.mg x = some (.ref C)) (kC : PySem.W.keepIn X.K (.ref C) = true) (r : Raises X (.ref C)) (hg : Gl X x) (hdb : (x == ("__debug__" : Str)) = false)
    (hc : X.calm = true) (tk : Takes X W) : SS X G W n (.Raise (some (.Call (.Name x p) [] [] pos)) none p2) (raiseS c) :=
  ⟨_, ps_raise hc tk (pmk_own0 F q gC kC r hg hdb), fun σ H ρ S F μ D R E hn h => h _ none σ H F μ (Ez.refl hn) R ⟨by rw [← hcl], fun _ => rfl, fun h => absurd rfl h⟩⟩
end
end Pq

namespace Pq
open PySem PySem.Spec PyProof.Rows L2
section
variable {X : Cx} {G : Tab} {W : WX} {tg a b c e o elt iter : Expr} {es : List Expr} {pos : Pos} {fa fb : SemE} {st : Stmt} {n : Nat}

/-! ### xs.count(True), xs.index(True) -/
def rCntF (K : PySem.W.Frag) : V → List V → Hp → VK → Prop := fun x xs H Q => ∃ (p : Addr) (ys : List V) (y : V), x = .ref p ∧ xs = [y] ∧ SqL K H p ys ∧ flatV y = true ∧ ys.all flatV = true ∧ Q (.int (ys.countP (fun z => eqV z y) : Nat)) H
theorem countP_eqU {x : V} : ∀ {xs : List V} {us : List Value}, Vals xs us → xs.all flatV = true → us.countP (eqU x) = xs.countP fun y => eqV y x
  | _, _, .nil, _ => rfl
  | y :: xs, u :: us, .cons r t, f => by
    rw [List.all_cons, Bool.and_eq_true] at f
    rw [List.countP_cons, List.countP_cons, eqU_of r f.1, countP_eqU t f.2]
theorem mt_countF : MtR X "list.count" (rCntF X.K) := by
  intro pins s σ H x xs v us Q I rx rxs h
  obtain ⟨p, ys, y, rfl, rfl, hs, fy, fys, q⟩ := h
  cases rx
  obtain ⟨u, rfl, ru⟩ := rxs.one
  obtain ⟨its, rv, ⟨⟨cls, dd, data, sl⟩, n, ho, hc, hdn, hd⟩, hlen⟩ := I.list hs
  simp only at hc hd
  subst hc hd
  refine call_meets PySem.F.slot_list_count ⟨_, ho, rfl⟩ PySem.F.entry_list_count (PySem.F.args_list_count_2 _ _)
    (SeqAt.list_countAt p its.toArray n dd sl u (eqU y)) ⟨ho, fun z hz => mem_eqAt ru fy rv fys z (by simpa using hz), ?_⟩
  have ec : its.toArray.toList.countP (eqU y) = ys.countP fun z => eqV z y := countP_eqU rv fys
  refine ⟨.int (ys.countP (fun z => eqV z y) : Nat), H, I.tok _, ⟨s.toks, ?_⟩, q⟩
  show Value.int ((its.toArray.toList.countP (eqU y) : Nat) : Int) s.toks = _
  rw [ec]
theorem bls_flat (bs : List Bool) : (bs.map V.bl).all flatV = true := by simp [flatV]
theorem bls_count (bs : List Bool) (k : Bool) : (bs.map V.bl).countP (fun z => eqV z (.bl k)) = bs.count k := by
  rw [List.countP_map]
  rfl
def countBS (S : Sto) (u : U) (us : List U) : Out U := onL S u fun xs => match us with
  | [.d (.bl k)] => (match blsD xs with
    | some ns => .ok (.d (.int (ns.count k : Nat))) S
    | none => .bad)
  | _ => .bad
theorem countB_ok : MethOk X G "list" (rCntF X.K) countBS := by
  intro W σ F μ S H v vs u us Q R r rs h
  unfold countBS onL at h
  split at h
  · rename_i xs e
    obtain ⟨p, ws, rfl, hp, hs⟩ := view_lst R r e
    try dsimp only at h
    split at h
    · rename_i k
      cases rs with
      | cons rx rs =>
        cases rs
        cases rx
        split at h
        · rename_i ns q
          have e2 := blsD_of hs q
          subst e2
          exact ⟨p, _, .bl k, rfl, rfl, SqL.of hp, rfl, bls_flat _, by rw [bls_count]; exact h.now R (IsD.int _)⟩
        · exact h.elim
    · exact h.elim
  · exact h.elim
def indexBS (S : Sto) (u : U) (us : List U) : Out U := onL S u fun xs => match us with
  | [.d (.bl k)] => (match blsD xs with
    | some ns => if ns.idxOf k < ns.length then .ok (.d (.int (ns.idxOf k : Nat))) S else .bad
    | none => .bad)
  | _ => .bad
theorem lt_idx {k : Bool} : ∀ {bs : List Bool} {m : Nat} {b : Bool}, m < bs.idxOf k → bs[m]? = some b → (b == k) = false
  | [], m, b, h, _ => by simp at h
  | x :: bs, m, b, h, e => by
    rw [List.idxOf_cons] at h
    cases q : x == k with
    | true => rw [q] at h; simp at h
    | false =>
      rw [q] at h
      cases m with
      | zero => simp at e; subst e; exact q
      | succ m => exact lt_idx (bs := bs) (m := m) (by simp at h; omega) (by simpa using e)
theorem indexB_ok : MethOk X G "list" (rIndex X.K) indexBS := by
  intro W σ F μ S H v vs u us Q R r rs h
  unfold indexBS onL at h
  split at h
  · rename_i xs e
    obtain ⟨p, ws, rfl, hp, hs⟩ := view_lst R r e
    try dsimp only at h
    split at h
    · rename_i k
      cases rs with
      | cons rx rs =>
        cases rs
        cases rx
        split at h
        · rename_i ns q
          have e2 := blsD_of hs q
          subst e2
          split at h
          · rename_i hl
            refine ⟨p, _, .bl k, ns.idxOf k, .bl k, rfl, rfl, SqL.of hp, rfl, bls_flat _, ?_, by simp [eqV], fun m z' hm hz => ?_, h.now R (IsD.int _)⟩
            · rw [List.getElem?_map, List.getElem?_eq_getElem hl, List.getElem_idxOf hl]; rfl
            · rw [List.getElem?_map, List.getElem?_eq_getElem (by omega)] at hz
              cases hz
              exact lt_idx hm (List.getElem?_eq_getElem (by omega))
          · exact h.elim
        · exact h.elim
    · exact h.elim
  · exact h.elim

/-! ### for a, b in zip(x, y), where x, y may be things that can be changed (by the callers alone) -/
def getZ (n : Nat) (S : Sto) (u : U) : Option (List D) := match u with
  | .d (.lst xs) => some xs
  | .r k => if k < n then (match S[k]? with
    | some (.lst xs) => some xs
    | _ => none) else none
  | _ => none
theorem getZ_is {K : PySem.W.Frag} {F H : Hp} {μ : List Addr} {S : Sto} {v : V} {u : U} {xs : List D} (R : Rl K G F μ S H) (r : IsU K G F μ v u) (h : getZ n S u = some xs) : ∃ p vs, v = .ref p ∧ H p = some (.lst vs) ∧ IsDs K G F vs xs := by
  unfold getZ at h
  split at h
  · cases h
    cases r with
    | lst hp hs => exact ⟨_, _, rfl, R.sub _ _ hp, hs⟩
  · rename_i k
    split at h
    · split at h
      · rename_i es
        cases h
        obtain ⟨p, hμ, rfl⟩ := r
        obtain ⟨_, vs, q, hs⟩ := R.obj k p _ hμ es (by intro z; cases z)
        exact ⟨p, vs, rfl, q, hs⟩
      · cases h
    · cases h
  · cases h
/-- turn by turn: what the two hold then -/
def zipR (n : Nat) (x y : U) (tg : SemG) (body : SemS) : Nat → Nat → SemS
  | 0, _ => fun _ _ => .bad
  | m + 1, i => fun ρ S => match getZ n S x, getZ n S y with
    | some xs, some ys => (match xs[i]?, ys[i]? with
      | some a, some b => (match tg (.d (.tup [a, b])) ρ with
        | none => .bad
        | some ρ1 => (match body ρ1 S with
          | .ok (.nx ρ2) S2 => zipR n x y tg body m (i + 1) ρ2 S2
          | .ok (.ct ρ2) S2 => zipR n x y tg body m (i + 1) ρ2 S2
          | .ok (.bk ρ2) S2 => .ok (.nx ρ2) S2
          | o => o))
      | _, _ => .ok (.nx ρ) S)
    | _, _ => .bad
/-- two tuples, or two lists -/
def forZ (n : Nat) (g : SemA) (tg : SemG) (body : SemS) : SemS := fun ρ S => (g ρ S).bind fun us S1 => match us with
  | [.d (.tup xs), .d (.tup ys)] => forL tg body (zipD xs ys) ρ S1
  | [x, y] => (match getZ n S1 x, getZ n S1 y with
    | some xs, some _ => zipR n x y tg body (xs.length + 1) 0 ρ S1
    | _, _ => .bad)
  | _ => .bad
theorem IsU.ez {K : PySem.W.Frag} {F H F' H' : Hp} {μ μ' : List Addr} (e : Ez n F μ H F' μ' H') {v : V} {u : U} (h : IsU K G F μ v u) (hu : ∀ k, u = .r k → k < n) : IsU K G F' μ' v u := by
  cases u with
  | d x => exact IsD.mono e.fr h
  | r k =>
    obtain ⟨a, h1, rfl⟩ := h
    have hk := hu k rfl
    refine ⟨a, ?_, rfl⟩
    have h2 : (μ.take n)[k]? = some a := by rw [List.getElem?_take_of_lt hk]; exact h1
    rw [← e.pre, List.getElem?_take_of_lt hk] at h2
    exact h2
theorem getZ_lt {S : Sto} {u : U} {xs : List D} (h : getZ n S u = some xs) : ∀ k, u = .r k → k < n := by
  rintro k rfl
  simp only [getZ] at h
  split at h
  · assumption
  · cases h
/-- the loop, once its readings are at hand -/
theorem zipR_run {body : List Stmt} {sl : List Nat} {x y : U} {p q : Addr} {g : SemG} {fb : SemS} {tg' : TG} {tb : TS} {σ : L2.St} {ρ : Ev} {S S' : Sto} {F H : Hp} {μ : List Addr} {D : Ends} {xs ys : List Pq.D}
    (qg : ∀ v u σ H ρ ρ' F μ S (Q : L2.St → Hp → Prop), Rl X.K G F μ S H → IsU X.K G F μ v u → EnvIs X.K G F μ σ ρ → g u ρ = some ρ' → (∀ σ', EnvIs X.K G F μ σ' ρ' → But sl σ σ' → Q σ' H) → tg' v σ H Q)
    (qb : ∀ σ H ρ S F μ D, Rl X.K G F μ S H → EnvIs X.K G F μ σ ρ → n ≤ μ.length → SRun X.K G W n F μ H (fb ρ S) D → tb D σ H)
    (hx : ∀ k, x = .r k → k < n) (hy : ∀ k, y = .r k → k < n) (R : Rl X.K G F μ S H) (E : EnvIs X.K G F μ σ ρ) (hn : n ≤ μ.length) (rx : IsU X.K G F μ (.ref p) x) (ry : IsU X.K G F μ (.ref q) y) (m : Nat)
    (h : SRun X.K G W n F μ H (zipR n x y g fb m 0 ρ S) D) :
    ∃ Wi : Nat → Nat → L2.St → Hp → Prop, (∃ m, Wi 0 m σ H) ∧ ∀ i m σ H, Wi i m σ H →
      ((Itz X.K p q).stop i H ∧ D.nx σ H) ∨ ((Itz X.K p q).go i H ∧ ∃ N : L2.St → Hp → Prop, (∀ σ' H', N σ' H' → ∃ m', m' < m ∧ Wi (i + 1) m' σ' H') ∧ ∀ z H', (Itz X.K p q).yld i H z H' → tg' z σ H' fun σ2 H2 => tb { D with nx := N, ct := N, bk := D.nx } σ2 H2) := by
  refine ⟨fun i m σ H => ∃ ρ S F μ, Rl X.K G F μ S H ∧ EnvIs X.K G F μ σ ρ ∧ n ≤ μ.length ∧ IsU X.K G F μ (.ref p) x ∧ IsU X.K G F μ (.ref q) y ∧ SRun X.K G W n F μ H (zipR n x y g fb m i ρ S) D, ⟨m, ρ, S, F, μ, R, E, hn, rx, ry, h⟩, ?_⟩
  rintro i m σ2 H2 ⟨ρ2, S2, F2, μ2, R2, E2, hn2, rx2, ry2, h2⟩
  cases m with
  | zero => exact h2.elim
  | succ m =>
    unfold zipR at h2
    cases zx : getZ n S2 x with
    | none => simp only [zx] at h2; exact h2.elim
    | some xs2 =>
      cases zy : getZ n S2 y with
      | none => simp only [zx, zy] at h2; exact h2.elim
      | some ys2 =>
        simp only [zx, zy] at h2
        obtain ⟨p', vs, ep, hp, hs⟩ := getZ_is R2 rx2 zx
        obtain ⟨q', ws, eq, hq, ht⟩ := getZ_is R2 ry2 zy
        cases ep
        cases eq
        have stop : SRun X.K G W n F2 μ2 H2 (.ok (.nx ρ2) S2) D → (xs2.length ≤ i ∨ ys2.length ≤ i) → (Itz X.K p q).stop i H2 ∧ D.nx σ2 H2 := fun hh hl =>
          ⟨⟨vs, ws, SqL.of hp, SqL.of hq, by rw [hs.length, ht.length]; exact hl⟩, hh σ2 H2 F2 μ2 (Ez.refl hn2) R2 E2⟩
        cases ex : xs2[i]? with
        | none => simp only [ex] at h2; exact .inl (stop h2 (.inl (List.getElem?_eq_none_iff.mp ex)))
        | some a =>
          cases ey : ys2[i]? with
          | none => simp only [ex, ey] at h2; exact .inl (stop h2 (.inr (List.getElem?_eq_none_iff.mp ey)))
          | some b =>
            simp only [ex, ey] at h2
            obtain ⟨v, g1, g2⟩ := hs.get ex
            obtain ⟨w, g3, g4⟩ := ht.get ey
            refine .inr ⟨⟨vs, ws, v, w, SqL.of hp, SqL.of hq, g1, g3⟩, fun σ' H' => ∃ ρ S F μ, Rl X.K G F μ S H' ∧ EnvIs X.K G F μ σ' ρ ∧ n ≤ μ.length ∧ IsU X.K G F μ (.ref p) x ∧ IsU X.K G F μ (.ref q) y ∧ SRun X.K G W n F μ H' (zipR n x y g fb m (i + 1) ρ S) D, fun σ' H' z => ⟨m, Nat.lt_succ_self _, z⟩, fun z H3 hz => ?_⟩
            obtain ⟨T, v', w', rfl, hT, rfl, y1, y2⟩ := hz
            have z1 := y1 _ (SqL.of hp)
            have z2 := y2 _ (SqL.of hq)
            rw [g1] at z1; rw [g3] at z2
            cases z1; cases z2
            have e3 : Ex F2 μ2 H2 (upd F2 T (.tup [v, w])) μ2 (upd H2 T (.tup [v, w])) := Ex.anew R2 hT
            have R3 := R2.anew (ho := .tup [v, w]) hT
            have h3 := SRun.later (e3.ez hn2) h2
            cases q1 : g (.d (.tup [a, b])) ρ2 with
            | none => rw [q1] at h3; exact h3.elim
            | some ρ3 =>
              rw [q1] at h3
              refine qg _ (.d (.tup [a, b])) σ2 _ ρ2 ρ3 _ μ2 S2 _ R3 (pair_new R2.sub hT g2 g4) (E2.mono e3) q1 fun σ3 E4 _ => ?_
              refine qb σ3 _ ρ3 S2 _ μ2 _ R3 E4 hn2 ?_
              try dsimp only at h3
              cases q2 : fb ρ3 S2 with
              | ok fl S4 =>
                rw [q2] at h3
                have go : ∀ (ρ4 : Ev), SRun X.K G W n (upd F2 T (.tup [v, w])) μ2 (upd H2 T (.tup [v, w])) (zipR n x y g fb m (i + 1) ρ4 S4) D → ∀ σ5 H5 F5 μ5, Ez n (upd F2 T (.tup [v, w])) μ2 (upd H2 T (.tup [v, w])) F5 μ5 H5 → Rl X.K G F5 μ5 S4 H5 → EnvIs X.K G F5 μ5 σ5 ρ4 → ∃ ρ S F μ, Rl X.K G F μ S H5 ∧ EnvIs X.K G F μ σ5 ρ ∧ n ≤ μ.length ∧ IsU X.K G F μ (.ref p) x ∧ IsU X.K G F μ (.ref q) y ∧ SRun X.K G W n F μ H5 (zipR n x y g fb m (i + 1) ρ S) D :=
                  fun ρ4 h4 σ5 H5 F5 μ5 e5 R5 E5 => ⟨ρ4, S4, F5, μ5, R5, E5, e5.low, (rx2.mono e3).ez e5 hx, (ry2.mono e3).ez e5 hy, SRun.later e5 h4⟩
                cases fl with
                | nx ρ4 => exact go ρ4 h3
                | ct ρ4 => exact go ρ4 h3
                | bk ρ4 => exact fun σ5 H5 F5 μ5 e5 R5 E5 => h3 σ5 H5 F5 μ5 e5 R5 E5
                | rt u => exact h3
              | exc x S4 => rw [q2] at h3; exact h3
              | bad => rw [q2] at h3; exact h3
/-- the loop over a fixed list of data -/
theorem forL_run {sl : List Nat} {J : It} {ds : List D} {g : SemG} {fb : SemS} {tg' : TG} {tb : TS} {σ : L2.St} {ρ : Ev} {S1 : Sto} {F1 H1 : Hp} {μ1 : List Addr} {Z : Ends}
    (qg : ∀ v u σ H ρ ρ' F μ S (Q : L2.St → Hp → Prop), Rl X.K G F μ S H → IsU X.K G F μ v u → EnvIs X.K G F μ σ ρ → g u ρ = some ρ' → (∀ σ', EnvIs X.K G F μ σ' ρ' → But sl σ σ' → Q σ' H) → tg' v σ H Q)
    (qb : ∀ σ H ρ S F μ D, Rl X.K G F μ S H → EnvIs X.K G F μ σ ρ → n ≤ μ.length → SRun X.K G W n F μ H (fb ρ S) D → tb D σ H)
    (it : ItIs X.K G F1 J ds) (R1 : Rl X.K G F1 μ1 S1 H1) (E1 : EnvIs X.K G F1 μ1 σ ρ) (hn1 : n ≤ μ1.length) (h1 : SRun X.K G W n F1 μ1 H1 (forL g fb ds ρ S1) Z) :
    ∃ Wi : Nat → Nat → L2.St → Hp → Prop, (∃ m, Wi 0 m σ H1) ∧ ∀ i m σ H, Wi i m σ H →
      (J.stop i H ∧ Z.nx σ H) ∨ (J.go i H ∧ ∃ N : L2.St → Hp → Prop, (∀ σ' H', N σ' H' → ∃ m', m' < m ∧ Wi (i + 1) m' σ' H') ∧ ∀ z H', J.yld i H z H' → tg' z σ H' fun σ2 H2 => tb { Z with nx := N, ct := N, bk := Z.nx } σ2 H2) := by
  refine ⟨fun i m σ H => m = ds.length - i ∧ i ≤ ds.length ∧ ∃ ρ S F μ, Same F1 F ∧ Rl X.K G F μ S H ∧ EnvIs X.K G F μ σ ρ ∧ n ≤ μ.length ∧ SRun X.K G W n F μ H (forL g fb (ds.drop i) ρ S) Z,
    ⟨ds.length, by simp, Nat.zero_le _, ρ, S1, F1, μ1, Same.refl _, R1, E1, hn1, h1⟩, ?_⟩
  rintro i m σ2 H2 ⟨rfl, hi, ρ2, S2, F2, μ2, sF, R2, E2, hn2, h2⟩
  by_cases hlt : i < ds.length
  · refine .inr ⟨it.go i F2 H2 sF R2.sub hlt, fun σ' H' => ∃ ρ S F μ, Same F1 F ∧ Rl X.K G F μ S H' ∧ EnvIs X.K G F μ σ' ρ ∧ n ≤ μ.length ∧ SRun X.K G W n F μ H' (forL g fb (ds.drop (i + 1)) ρ S) Z,
      fun σ' H' q => ⟨ds.length - (i + 1), by omega, rfl, hlt, q⟩, fun x H3 hy => ?_⟩
    have hd : ds[i]? = some ds[i] := List.getElem?_eq_getElem hlt
    rw [List.drop_eq_getElem_cons hlt] at h2
    obtain ⟨F3, e3, R3, r3⟩ : ∃ F3, Ex F2 μ2 H2 F3 μ2 H3 ∧ Rl X.K G F3 μ2 S2 H3 ∧ IsD X.K G F3 x ds[i] := by
      rcases it.yld i F2 H2 x H3 ds[i] sF R2.sub hd hy with ⟨rfl, r⟩ | ⟨p, o, hp, rfl, r⟩
      · exact ⟨F2, Ex.refl _ _ _, R2, r⟩
      · exact ⟨_, Ex.anew R2 hp, R2.anew hp, r⟩
    have h3 := SRun.later (e3.ez hn2) h2
    unfold forL at h3
    cases q1 : g (.d ds[i]) ρ2 with
    | none => rw [q1] at h3; exact h3.elim
    | some ρ3 =>
      rw [q1] at h3
      refine qg x (.d ds[i]) σ2 H3 ρ2 ρ3 F3 μ2 S2 _ R3 r3 (E2.mono e3) q1 fun σ3 E4 _ => ?_
      refine qb σ3 H3 ρ3 S2 F3 μ2 _ R3 E4 hn2 ?_
      try dsimp only at h3
      cases q2 : fb ρ3 S2 with
      | ok fl S4 =>
        rw [q2] at h3
        cases fl with
        | nx ρ4 => exact fun σ5 H5 F5 μ5 e5 R5 E5 => ⟨ρ4, S4, F5, μ5, (sF.trans e3.fr).trans e5.fr, R5, E5, e5.low, SRun.later e5 h3⟩
        | ct ρ4 => exact fun σ5 H5 F5 μ5 e5 R5 E5 => ⟨ρ4, S4, F5, μ5, (sF.trans e3.fr).trans e5.fr, R5, E5, e5.low, SRun.later e5 h3⟩
        | bk ρ4 => exact fun σ5 H5 F5 μ5 e5 R5 E5 => h3 σ5 H5 F5 μ5 e5 R5 E5
        | rt u => exact h3
      | exc x S4 => rw [q2] at h3; exact h3
      | bad => rw [q2] at h3; exact h3
  · have hi' : i = ds.length := by omega
    subst hi'
    refine .inl ⟨it.stop _ F2 H2 sF R2.sub (Nat.le_refl _), ?_⟩
    rw [List.drop_length] at h2
    exact h2 σ2 H2 F2 μ2 (Ez.refl hn2) R2 E2
theorem ss_forZ {sl : List Nat} {body : List Stmt} {g : SemG} {fb : SemS} {p tpos : Pos} {ga : SemA} {elts : List Expr} {kk : Nat} (hp : PassesOwn (model X.prog X.w) X.A X.env X.xe) (hc : X.calm = true) (hgl : Gl X "zip") (hm : X.mg "zip" = none)
    (ha : EA X G W [a, b] ga) (hs : starless a = true) (hs2 : starless b = true) (hg : EG X G (.Tuple elts kk tpos) g sl) (hb : SSs X G W n body fb) {cpos : Pos} :
    SS X G W n (.For (.Tuple elts kk tpos) (.Call (.Name "zip" p) [a, b] [] cpos) body [] pos) (forZ n ga g fb) := by
  obtain ⟨t, pa, qa⟩ := ha.ex
  obtain ⟨tg', pg, qg⟩ := hg.ex
  obtain ⟨tb, pb, qb⟩ := hb.ex
  refine ⟨_, ps_for hp hc (RZ.pi_zipA hgl hm pa (by rw [starEach_c hs]) (starless_any (by simp [hs2]))) pg pb (folded_c rfl _), fun σ H ρ S F μ D R E hn h => ?_⟩
  refine qa σ H ρ S F μ _ R E (SRun.bindE hn h fun us S1 vs F1 μ1 H1 zq1 e1 R1 r1 hn1 h1 => ?_)
  rcases us with _ | ⟨x, _ | ⟨y, _ | ⟨z, us⟩⟩⟩
  · exact h1.elim
  · cases x with
    | r _ => exact h1.elim
    | d x => cases x <;> exact h1.elim
  · cases r1 with
    | cons rx r1 =>
      cases r1 with
      | cons ry r1 =>
        cases r1
        by_cases ht : ∃ xs ys, x = .d (.tup xs) ∧ y = .d (.tup ys)
        · obtain ⟨xs, ys, rfl, rfl⟩ := ht
          cases rx with
          | tup hp hs =>
            cases ry with
            | tup hp' hs' => exact ⟨_, _, _, _, rfl, .inr ⟨R1.sub.seqT hp, R1.sub.seqT hp', forL_run qg qb (it_zipT hp hs hp' hs') R1 (E.mono e1) hn1 h1⟩⟩
        · have h1 : SRun X.K G W n F1 μ1 H1 (match getZ n S1 x, getZ n S1 y with
              | some xs, some _ => zipR n x y g fb (xs.length + 1) 0 ρ S1
              | _, _ => .bad) D := by
            split at h1
            · rename_i q; cases q; exact absurd ⟨_, _, rfl, rfl⟩ ht
            · rename_i q; cases q; exact h1
            · rename_i q1 q2; exact absurd rfl (q2 x y)
          cases zx : getZ n S1 x with
          | none => simp only [zx] at h1; exact h1.elim
          | some xs =>
            cases zy : getZ n S1 y with
            | none => simp only [zx, zy] at h1; exact h1.elim
            | some ys =>
              simp only [zx, zy] at h1
              obtain ⟨p', vs', rfl, hp', hs'⟩ := getZ_is R1 rx zx
              obtain ⟨q', ws', rfl, hq', ht'⟩ := getZ_is R1 ry zy
              exact ⟨p', q', _, _, rfl, .inl ⟨SqL.of hp', SqL.of hq', zipR_run (body := body) (xs := xs) (ys := ys) (S' := S1) qg qb (getZ_lt zx) (getZ_lt zy) R1 (E.mono e1) hn1 rx ry _ h1⟩⟩
  · cases x with
    | r _ => exact h1.elim
    | d x =>
      cases x with
      | tup _ => cases y with
        | r _ => exact h1.elim
        | d y => cases y <;> exact h1.elim
      | _ => exact h1.elim
end
end Pq

namespace Pq
open PySem PySem.Spec PyProof.Rows L2 L2H
abbrev St := L2.St

/-! ### a def that is called while an exception is handled: it is pinned, and handed in -/
structure FnP (P : Program) (w : World) (K : PySem.W.Frag) (mg : Str → Option Value) (base : Heap) (CX : CXT) (k : Nat) (f : Addr) (fd : FuncData) (ps : List Str) (sp : Addr × Obj → Sp) : Prop where
  len : ∀ p vs H Q E, sp p vs H Q E → vs.length = ps.length
  run : ∀ (A : Around) (outer : List PySem.Env) (s : Shared) (H : Hp) (args : Args) (us : List Value) (vs : List V) (Q : VK) (E : XK) (p : Addr × Obj), RoomH k A → PinOk outer H s p → Env0 P w K mg base A outer s H → BindsTo s fd args (ps.zip us) → Vals vs us → sp p vs H Q E →
    codeAny (model P w) A (.call (.ref f) args) (CR CX outer P w H s Q E) s
theorem fn_ofP {CX : CXT} {P : Program} {w : World} {K : PySem.W.Frag} {mg : Str → Option Value} {base : Heap} {k : Nat} {f : Addr} {name qual : Str} {params : Arguments} {body : List Stmt} {scope : Scope} {dV kV doc pm cdv ct oc : Value} {an od : Option Addr}
    {osl : Array (Option Value)} {N ps : List Str} {sp : Addr × Obj → Sp} (lk : K.lookup f = some ⟨oc, od, .func (PySem.W.fnOf name qual params body scope dV kV doc pm an cdv ct), osl⟩) (hcd : PySem.W.codeIn K cdv qual = true) (S : FnScope N ps scope)
    (len : ∀ p vs H Q E, sp p vs H Q E → vs.length = ps.length)
    (hbody : ∀ (A : Around) (outer : List PySem.Env) (s : Shared) (H : Hp) (vs : List V) (Q : VK) (E : XK) (p : Addr × Obj), RoomH k (A.deeper (envOfC qual scope s.heap.objs.size f cdv)) → sp p vs H Q E →
      ∃ t, PSs (cxH CX P w K mg base N qual scope f cdv A outer s H E p) body t ∧ t { nx := fun _ H' => Q .non H', rt := Q } (L2.start N vs) H) :
    FnP P w K mg base CX (k + 1) f (PySem.W.fnOf name qual params body scope dV kV doc pm an cdv ct) ps sp := by
  refine ⟨len, fun A outer s H args us vs Q E p hr hpin e0 hb r hsp => ?_⟩
  have hl := len _ _ _ _ _ hsp
  have KX : K.In s.heap := e0.mod.kin.keeps fun b o e => (e0.bs b o e).1
  have lim : s.heap.NoLimit := e0.mod.nolimit.keeps fun b o e => (e0.bs b o e).1
  have hkind : ∀ y ∈ ps.zip us, scope.names.lookup y.1 = some .local ∨ (scope.names.lookup y.1 = some .cell ∧ ((cellsFrom (s.heap.objs.size + 1) scope.names []).lookup y.1).isSome = true) := fun ⟨n, v⟩ hy => by
    rcases S.par n (List.of_mem_zip hy).1 with q | q
    · exact .inl q
    · exact .inr ⟨q, PySem.W.cellsFrom_some _ _ _ (.inl q)⟩
  refine codeAny_call_function hr.depth (KX _ _ lk) rfl S.co S.gen rfl (PySem.W.codeRec_of KX hcd) (hb _ _ _ _ ?_)
  refine wpAny_newFunctionEnv_cells S.kind hkind fun env he s1 x => ?_
  subst he
  refine ⟨lim.keeps x.toInCall.keep, codeAny_func ?_⟩
  obtain ⟨t, ht, hq⟩ := hbody A outer s H vs Q E p (hr.deeper _) hsp
  have I : Inv (cxH CX P w K mg base N qual scope f cdv A outer s H E p) [] (L2.start N vs) H s1 := inv_startH S hpin e0 hl r x
  refine wpAny_mono (ht.run [] s1 (L2.start N vs) H _ I hq) (fun fl s' hs => ?_) fun e s' hs => hs
  have fin : ∀ {σ' : L2.St} {H' : Hp} {v : V} {u : Value}, Inv (cxH CX P w K mg base N qual scope f cdv A outer s H E p) [] σ' H' s' → RelV v u → Q v H' → CE outer P w H s Q u s' :=
    fun {σ' H' v u} J rv q => ⟨v, H', J.os, J.bare, J.base, J.hok, rv, q⟩
  cases fl with
  | ret u =>
    obtain ⟨v, σ', H', J, rv, q⟩ := hs
    exact fin J rv q
  | next =>
    obtain ⟨σ', H', J, q⟩ := hs
    exact fin (v := V.non) (u := Value.none) J rfl q
  | brk =>
    obtain ⟨_, _, _, q⟩ := hs
    exact False.elim q
  | cont =>
    obtain ⟨_, _, _, q⟩ := hs
    exact False.elim q
theorem run_fnP {X : Cx} {CX : CXT} {k : Nat} {f : Addr} {fd : FuncData} {ps : List Str} {sp : Addr × Obj → Sp} {E : St → XK} {p : Addr × Obj} {pins : List (Addr × Obj)} {σ : St} {H : Hp} {s : Shared} {Q : VK} {us : List Value} {vs : List V} (F : FnP X.prog X.w X.K X.mg X.base CX k f fd ps sp) (hr : RoomH k X.A) (hp : p ∈ X.pn) (hb : Binds X.K fd ps []) (hx : PassesAt CX X σ (E σ))
    (I : Inv X pins σ H s) (r : Vals vs us) (h : sp p vs H Q (E σ)) : wpAny (model X.prog X.w) X.A (call (.ref f) us) (EP X pins σ Q) X.xe s := by
  have hl : us.length = ps.length := by rw [← r.length]; exact F.len _ _ _ _ _ h
  have b := hb s us I.kIn (by rw [List.append_nil]; exact hl)
  rw [List.append_nil] at b
  have P1 := I.pin p (List.mem_append_left _ hp)
  have hpin : PinOk X.stack H s p := ⟨P1.1, P1.2.1, fun hm => (List.mem_cons.mp (I.stkSub p.1 hm)).elim P1.2.2.1 P1.2.2.2.1, P1.2.2.2.2⟩
  refine wpAny_call (codeAny_mono (F.run X.A X.stack s H ⟨us, []⟩ us vs Q (E σ) p hr hpin I.env0 b r h) fun r s' hq => ?_)
  cases r with
  | error e => exact hx pins H s e s' I hq
  | ok fl =>
    cases fl with
    | ret u => exact I.after hq
    | next => exact False.elim hq
    | brk => exact False.elim hq
    | cont => exact False.elim hq

/-! ### the word of a refusal -/
def spKind (K : PySem.W.Frag) (G : Tab) (res : Nat → Option Str) : Addr × Obj → Sp := fun p vs H Q E => ∃ c r, vs = [.ref p.1] ∧ Zc (.ref (G.cls c)) none p.2 ∧ (∃ fs, p.2.data = .fields fs) ∧ res c = some r ∧ ∀ H', Same H H' → Q (.str r) H'
structure ClsOk (K : PySem.W.Frag) (G : Tab) (sub : Nat → Nat → Bool) (c : Nat) : Prop where
  exc : ExcC K (G.cls c)
  ve : PySem.W.kitOne K (.ref (G.cls c)) (.type "ValueError") = some true
  sub : ∀ c', PySem.W.kitOne K (.ref (G.cls c)) (.ref (G.cls c')) = some (sub c c')
theorem kind_ok {P : Program} {w : World} {K : PySem.W.Frag} {mg : Str → Option Value} {base : Heap} {G : Tab} {x qual : Str} {st : Stmt} {f : Addr} {fd : FuncData} {N ps : List Str} {k : Nat} {body : Nat → SemS} {res : Nat → Option Str} {sub : Nat → Nat → Bool} (F : Fun K x qual st f fd) (Sc : FnScope N ps (defScope st)) (hps : ps.length = 1)
    (hcls : ∀ c r, res c = some r → ClsOk K G sub c)
    (hres : ∀ c r, res c = some r → exitS 0 (body 0 ([some (.d (.exn c))] ++ List.replicate (N.length - 1) none) []) = .ok (.d (.str r)) [])
    (hb : ∀ (X : Cx) (G' : Tab) (W : WX) (n : Nat), G'.cls = G.cls → X.prog = P → X.w = w → X.K = K → X.mg = mg → X.base = base → X.N = N → X.env.scope = defScope st → (∀ y, X.fn y = true) → X.A.units + 64 < cLine → ExnOk X G' sub → SSs X G' W n (defBody st) (body n)) :
    FnP P w K mg base (L2.CX P w) (k + 1) f fd ps (spKind K G res) := by
  have hpl : ps.length ≤ N.length := by have := congrArg List.length Sc.pre; rw [List.length_take] at this; omega
  obtain ⟨oc, od, kV, doc, pm, an, cdv, ct, osl, rfl, lk, hcd⟩ := F.ex
  refine fn_ofP lk hcd Sc (fun p vs H Q E h => ?_) fun A outer s H vs Q E p hr h => ?_
  · obtain ⟨c, r, rfl, _⟩ := h
    exact hps.symm
  · obtain ⟨c, r, rfl, hz, hf, hc, q⟩ := h
    have C := hcls c r hc
    have hu : (A.deeper (envOfC qual (defScope st) s.heap.objs.size f cdv)).units + 64 < cLine := by
      have := hr.un
      omega
    obtain ⟨t, pt, qt⟩ := (hb (cxH (L2.CX P w) P w K mg base N qual (defScope st) f cdv A outer s H E p) { G with exn := fun b => if b = p.1 then some c else none } (fun _ _ _ _ => True) 0 rfl rfl rfl rfl rfl rfl rfl rfl (fun _ => rfl) hu
      ⟨fun a c' e => by
        have e' : (if a = p.1 then some c else none) = some c' := e
        split at e'
        · rename_i ha
          subst ha
          cases e'
          exact ⟨p.2, List.mem_singleton.mpr rfl, hz, hf, C.exc, C.ve, C.sub⟩
        · cases e'⟩).ex
    refine ⟨t, pt, qt (L2.start N [.ref p.1]) H ([some (.d (.exn c))] ++ List.replicate (N.length - 1) none) [] (fun _ => none) [] _ ⟨fun b o e => (by cases e), rfl, fun k a o h => (by simp at h), fun j k a p q h => (by simp at h), fun a h => (by simp at h)⟩ ?_ (Nat.le_refl _) ?_⟩
    · have := env_start (K := K) (G := { G with exn := fun b => if b = p.1 then some c else none }) (F := fun _ => none) (μ := []) (N := N) (vs := [.ref p.1]) (us := [.d (.exn c)]) (.cons (IsD.exn (by simp)) .nil) (by simp; omega)
      exact this
    · have hx := hres c r hc
      have R : Run K { G with exn := fun b => if b = p.1 then some c else none } (fun c d _ H' => (fun _ _ _ => True : XK) c d H') [] (fun _ => none) [] H (IsU K { G with exn := fun b => if b = p.1 then some c else none }) (exitS 0 (body 0 ([some (.d (.exn c))] ++ List.replicate (N.length - 1) none) [])) Q := by
        rw [hx]
        intro v H' F' μ' e R' r'
        cases r'
        exact q H' fun b o h => e.keep b o h (by simp)
      exact exit_run (K := K) (S := []) (μ := []) rfl R

/-! ### try: return e, except X as n: return kind(n) -/
def tryS (i : Nat) (f : SemE) (res : Nat → Option Str) : SemS := fun ρ S => match f ρ S with
  | .ok u S' => .ok (.rt u) S'
  | .exc x S' => if x.fs.isEmpty = true ∧ i < ρ.length then (match res x.c with
    | some r => .ok (.rt (.d (.str r))) S'
    | none => .bad) else .bad
  | .bad => .bad
theorem Rl.same {K : PySem.W.Frag} {G : Tab} {F H H' : Hp} {μ : List Addr} {S : Sto} (R : Rl K G F μ S H) (e : Same H H') : Rl K G F μ S H' :=
  ⟨R.sub.trans e, R.len, fun k a o h hs hd => let ⟨h1, h2⟩ := R.obj k a o h hs hd; ⟨h1, IsO.mono h2 (Same.refl _) fun u q => e _ _ q⟩, R.inj, fun a ha => let ⟨o, h⟩ := R.thr a ha; ⟨o, e _ _ h⟩⟩
theorem ss_tryk {X : Cx} {G : Tab} {W : WX} {n i k : Nat} {e : Expr} {f : SemE} {res : Nat → Option Str} {x nm kx : Str} {Cf fk : Addr} {fd : FuncData} {ps : List Str} {np pos pos' p1 p2 p3 p4 p5 : Pos}
    (hs : X.stack = X.env :: X.outer) (hf : X.env.frame = some X.env.locals) (hN : X.N.Nodup) (hi : X.N[i]? = some nm) (hln : X.env.scope.names.lookup nm = some .local) (hc : Names X x (.ref Cf)) (tk : Takes X W)
    (he : ∀ (W' : WX) (pn : List (Addr × Obj)) (xe : Value → Shared → Prop), Takes (X.tr pn xe) W' → EE (X.tr pn xe) G W' e f)
    (hm : ∀ c r, res c = some r → PySem.W.exmOne X.K (.ref (G.cls c)) (.ref Cf) = some true)
    (Fk : FnP X.prog X.w X.K X.mg X.base (L2.CX X.prog X.w) k fk fd ps (spKind X.K G res)) (hr : RoomH k X.A) (hg : Gl X kx) (hmk : X.mg kx = some (.ref fk)) (hk : PySem.W.keepIn X.K (.ref fk) = true) (hb : Binds X.K fd ps []) (hdb : (kx == ("__debug__" : Str)) = false) (hd2 : (nm == ("__debug__" : Str)) = false) (hd3 : (nm == ("__classdict__" : Str)) = false) :
    SS X G W n (.Try [.Return (some e) p5] [.ExceptHandler (some (.Name x np)) (some nm) [.Return (some (.Call (.Name kx p1) [.Name nm p2] [] p3)) p4] pos'] [] [] pos) (tryS i f res) := by
  have P := ps_try_as (X := X) (x := x) (n := nm) (c := .ref Cf) (i := i) (body := [.Return (some e) p5]) (suite := []) (b₀ := .Return (some (.Call (.Name kx p1) [.Name nm p2] [] p3)) p4) (np := np) (pos := pos) (pos' := pos') (Wout := W)
    (tb := fun W' => tRet (canE X.K G W' f))
    (ts := fun a cls d => fun D σ H => σ[i]? = some (some (.ref a)) ∧ d = none ∧ ∃ c r, cls = .ref (G.cls c) ∧ res c = some r ∧ ∀ H', Same H H' → D.rt (.str r) H')
    hs hf hN hi hln hc tk (fun W' pn xe tk' _ => pss_one (ps_ret (he W' pn xe tk').can)) fun a oe cls d pn hz hfl => by
      refine pss_one ⟨fun pins s σ H D I h => ?_⟩
      obtain ⟨h1, rfl, c, r, rfl, hres, q⟩ := h
      have PEc : PE (X.suite a ((a, oe) :: pn)) (.Call (.Name kx p1) [.Name nm p2] [] p3) (fun σ H Q => σ[i]? = some (some (.ref a)) ∧ ∀ H', Same H H' → Q (.str r) H') := by
        refine ⟨fun pins s σ H Q I h => ?_⟩
        obtain ⟨h1, q⟩ := h
        refine wpAny_Call_Name_kw (ld_glob I hg hmk ?_ hdb)
        have ha : PA (X.suite a ((a, oe) :: pn)) [.Name nm p2] (tCons (tVar i) tNil) := pa_cons (pe_var hi (.inl hln) hd2 hd3) pa_nil
        refine PySem.W.callWith_K (h₀ := X.base) I.ok.mod.kin hk (thn (ha.run p3 pins s σ H (fun vs H1 => vs = [V.ref a] ∧ H = H1) I ⟨_, h1, rfl, rfl⟩) fun us s1 hh => ?_)
        obtain ⟨vs, H1, I1, r1, ev, eH⟩ := hh
        subst ev
        rw [← eH] at I1
        refine ⟨I1.kIn, ?_⟩
        have Fk' : FnP (X.suite a ((a, oe) :: pn)).prog (X.suite a ((a, oe) :: pn)).w (X.suite a ((a, oe) :: pn)).K (X.suite a ((a, oe) :: pn)).mg (X.suite a ((a, oe) :: pn)).base (L2.CX X.prog X.w) k fk fd ps (spKind X.K G res) := Fk
        refine run_fnP (X := X.suite a ((a, oe) :: pn)) (E := fun _ _ _ _ => False) (p := (a, oe)) Fk' ⟨hr.dp, hr.un⟩ List.mem_cons_self hb ?_ I1 r1 ⟨c, r, rfl, hz, hfl, hres, fun H' s' => q H' s'⟩
        intro pins2 H2 s2 e2 s3 I2 c2
        obtain ⟨_, _, _, _, _, _, _, _, _, _, _, _, z⟩ := c2
        exact z
      exact (ps_ret PEc).run pins s σ H D I ⟨h1, fun H' s' => q H' s'⟩
  refine ⟨_, P, fun σ H ρ S F μ D R E hn h => ?_⟩
  refine ⟨ρ, S, F, μ, R, E, ?_⟩
  unfold tryS at h
  cases q : f ρ S with
  | bad => rw [q] at h; exact h
  | ok u S' =>
    rw [q] at h
    exact fun v H' F' μ' e' R' r' => h v H' F' μ' (e'.ez hn) R' r'
  | exc x S' =>
    rw [q] at h
    try dsimp only at h
    split at h
    · rename_i hx
      cases hr : res x.c with
      | none => rw [hr] at h; exact h.elim
      | some r =>
        rw [hr] at h
        intro cls dd H' F' μ' e' R' r'
        obtain ⟨rfl, hd, _⟩ := r'
        have hfs : x.fs = [] := List.isEmpty_iff.mp hx.1
        refine ⟨true, hm x.c r hr, fun _ a ha => ⟨List.getElem?_set_self (by rw [E.1]; exact hx.2), hd hfs, x.c, r, rfl, hr, fun H'' s' => ?_⟩, fun z => by cases z⟩
        have ez := e'.ez hn
        exact h (.str r) H'' F' μ' ⟨ez.fr, ez.low, ez.pre, fun b o hb hm => s' b o (ez.keep b o hb hm), ez.new, ez.newμ⟩ (R'.same s') (IsD.str r)
    · exact h.elim
end Pq

namespace Pq
open PySem PySem.Spec PyProof.Rows L2

inductive Bf where
  | len | isi | int | abs | max2 | min2 | tuple | list | sum | all | any
inductive Mt where
  | append | extend | reverse | pop | popAt | count | countB | indexB
/-- a program's words, by places -/
inductive T where
  | bad | nm (i : Nat) | int (i : Int) | bl (b : Bool) | non | str (x : Str)
  | gint (x : Str) (i : Int) | tyN (x : String) | gcls (c : Nat)
  | bin (op : Operator) (a b : T) | neg (a : T)
  | cmp (op : CmpOp) (a b : T) | cmp3 (op op' : CmpOp) (a b c : T)
  | and1 (a : T) | and2 (a b : T) | or1 (a : T) | or2 (a b : T) | not (a : T) | ifx (c a b : T)
  | tup (as : T) | lst (as : T) | new (as : T) | dnew | d0
  | ix (a b : T) | sl (a lo hi : T) | dget (a b : T) | din (neg : Bool) (a b : T) | dget2 (o a b : T)
  | callB (f : Bf) (as : T) | call (f : Nat) (as : T) | meth (m : Mt) (o as : T)
  | frz (a : T) | comp (ref : Bool) (own : List (Str × Nat)) (it tg ifs elt : T)
  | nil | cons (a as : T)
  | gnm (i : Nat) | gtup (as : T)
  | iseq (a : T) | irange1 (a : T) | irange2 (a b : T) | izip (a b : T)
  | pass | brk | cont | ret (a : T) | set (i : Nat) (a : T) | setc (i : Nat) (a : T) | asg (tg a : T) | par2 (i j : Nat) (a b : T) | par3 (i j l : Nat) (a b c : T) | drop (a : T)
  | ite (c a b : T) | for_ (it tg body : T) | forz (a b tg body : T) | while_ (c body : T) | setit (o i v : T) | raise (c : Nat) | gc (ks : List Nat) (s : T) | tryk (i : Nat) (a : T)

/-- what the words lean on: the defs' meanings, which class stands under which, the words of refusals -/
structure Gv where
  call : Nat → SemF
  sub : Nat → Nat → Bool
  res : Nat → Option Str
/-- a word's meaning, as what it may stand for -/
structure Sm where
  e : SemE := fun _ _ => .bad
  t : SemT := fun _ _ => .bad
  a : SemA := fun _ _ => .bad
  o : Option SemE := none
  f : Option SemT := none
  g : SemG := fun _ _ => none
  gs : SemGs := fun _ _ => none
  i : Ev → Sto → Out (List D) := fun _ _ => .bad
  s : Nat → SemS := fun _ _ _ => .bad
def valT (f : SemE) : SemT := fun ρ S => (f ρ S).bind fun u S1 => outB (boolS S1 u) S1
def Sm.ofE (f : SemE) : Sm := { e := f, t := valT f }
def Sm.ofS (f : Nat → SemS) : Sm := { s := f }
def bfS (V : Gv) : Bf → Sto → List U → Out U
  | .len => fun S => one (lenS S)
  | .isi => fun S => two (isiS V.sub S)
  | .int => fun S => one (intS S)
  | .abs => fun S => one (absS S)
  | .max2 => fun S => two (max2S S)
  | .min2 => fun S => two (min2S S)
  | .tuple => fun S => one (tupleS S)
  | .list => fun S => one (listS S)
  | .sum => fun S => one (sumS S)
  | .all => fun S => one (allS S)
  | .any => fun S => one (anyS S)
def noA (g : Sto → U → List U → Out U) : Sto → U → List U → Out U := fun S u us => match us with
  | [] => g S u []
  | _ => .bad
def mtS : Mt → Sto → U → List U → Out U
  | .append => appendS | .extend => extendS | .reverse => noA reverseS | .pop => noA popS | .popAt => popAtS | .count => countS | .countB => countBS | .indexB => indexBS
def un1 (f : SemE) (k : Sto → U → Out U) : SemE := fun ρ S => (f ρ S).bind fun u S1 => k S1 u
def bi2 (f g : SemE) (k : Sto → U → U → Out U) : SemE := fun ρ S => (f ρ S).bind fun x S1 => (g ρ S1).bind fun y S2 => k S2 x y
def arS (g : SemA) (k : Sto → List U → Out U) : SemE := fun ρ S => (g ρ S).bind fun us S1 => k S1 us
def slS (f : SemE) (l h : Option SemE) : SemE := fun ρ S => (f ρ S).bind fun u S1 => (partS l ρ S1).bind fun l S2 => (partS h ρ S2).bind fun h S3 => sliceS S3 u l h
def dg2S (fo fa fb : SemE) : SemE := fun ρ S => (fo ρ S).bind fun u S1 => match kvsOf S1 u with
  | some _ => (fa ρ S1).bind fun x S2 => (fb ρ S2).bind fun y S3 => dget2S S3 u [x, y]
  | none => .bad
def cmpV (t : SemT) : SemE := fun ρ S => (t ρ S).bind bV
def notT (t : SemT) : SemT := fun ρ S => (t ρ S).bind fun k S1 => .ok (!k) S1
def compE (ref : Bool) (c : Ev → Sto → Out (List D)) : SemE := if ref = true then fun ρ S => (c ρ S).bind fun ys S1 => .ok (.r S1.length) (S1 ++ [.lst ys]) else fun ρ S => (c ρ S).bind fun ys S1 => .ok (.d (.lst ys)) S1
def dinQ (f : Bool → Bool) (S : Sto) (w u : U) : Option Bool := match kvsOf S u, w with
  | some kvs, .d x => (keyOf x).map fun k => f (lookD kvs k).isSome
  | _, _ => none
def FUEL : Nat := 1099511627776
def lenT : T → Nat
  | .cons _ as => lenT as + 1
  | _ => 0
def ev (V : Gv) : T → Sm
  | .bad => {}
  | .nm i => .ofE (nmS i)
  | .int i => .ofE (kS (.int i))
  | .bl b => .ofE (kS (.bl b))
  | .non => .ofE (kS .non)
  | .str x => .ofE (kS (.str x))
  | .gint _ i => .ofE (kS (.int i))
  | .tyN n => .ofE (kS (.ty n))
  | .gcls c => .ofE (kS (.cls c))
  | .bin op a b => .ofE (bi2 (ev V a).e (ev V b).e (binS op))
  | .neg a => .ofE (un1 (ev V a).e negS)
  | .cmp op a b => { e := cmpV (cmp2 (cmpS op) (ev V a).e (ev V b).e), t := cmp2 (cmpS op) (ev V a).e (ev V b).e }
  | .cmp3 op op' a b c => { e := cmpV (cmp3 (cmpS op) (cmpS op') (ev V a).e (ev V b).e (ev V c).e), t := cmp3 (cmpS op) (cmpS op') (ev V a).e (ev V b).e (ev V c).e }
  | .and1 a => { e := (ev V a).e, t := (ev V a).t }
  | .and2 a b => { e := andV (ev V a).e (ev V b).e, t := andT (ev V a).t (ev V b).t }
  | .or1 a => { e := (ev V a).e, t := (ev V a).t }
  | .or2 a b => { e := orV (ev V a).e (ev V b).e, t := orT (ev V a).t (ev V b).t }
  | .not a => { e := notV (ev V a).e, t := notT (ev V a).t }
  | .ifx c a b => { e := ifV (ev V c).t (ev V a).e (ev V b).e }
  | .tup as => .ofE (arS (ev V as).a tupS)
  | .lst as => .ofE (arS (ev V as).a lstS)
  | .new as => .ofE (arS (ev V as).a newS)
  | .dnew => .ofE fun _ S => .ok (.r S.length) (S ++ [.dct []])
  | .d0 => .ofE (kS (.dct [] []))
  | .ix a b => .ofE (bi2 (ev V a).e (ev V b).e ixS)
  | .sl a lo hi => .ofE (slS (ev V a).e (ev V lo).o (ev V hi).o)
  | .dget a b => .ofE (bi2 (ev V a).e (ev V b).e dgetS)
  | .din neg a b => { e := bi2 (ev V a).e (ev V b).e (dinS (if neg then (!·) else id)), t := fun ρ S => ((ev V a).e ρ S).bind fun x S1 => ((ev V b).e ρ S1).bind fun y S2 => outB (dinQ (if neg then (!·) else id) S2 x y) S2 }
  | .dget2 o a b => .ofE (dg2S (ev V o).e (ev V a).e (ev V b).e)
  | .callB f as => .ofE (arS (ev V as).a (bfS V f))
  | .call f as => .ofE (arS (ev V as).a (V.call f))
  | .meth m o as => .ofE (methS "list" (ev V o).e (match m with | .reverse => nilA | .pop => nilA | _ => (ev V as).a) (mtS m))
  | .frz a => { e := frzS (ev V a).e }
  | .comp ref own it tg ifs elt => { e := compE ref (compS (ev V it).i (ev V tg).g (ev V ifs).f (ev V elt).e (own.map (·.2))) }
  | .nil => { a := nilA, o := none, f := none, gs := nilG, s := fun _ => nilS }
  | .cons a as => { a := consA (ev V a).e (ev V as).a, o := some (ev V a).e, f := some (ev V a).t, gs := consG (ev V a).g (ev V as).gs, s := fun n => seqS ((ev V a).s n) ((ev V as).s n) }
  | .gnm i => { g := fun u ρ => some (ρ.set i (some u)) }
  | .gtup as => { g := tupG (lenT as) (ev V as).gs }
  | .iseq a => { i := seqI (ev V a).e }
  | .irange1 a => { i := range1I (consA (ev V a).e nilA) }
  | .irange2 a b => { i := range2I (consA (ev V a).e (consA (ev V b).e nilA)) }
  | .izip a b => { i := zipI (consA (ev V a).e (consA (ev V b).e nilA)) }
  | .pass => .ofS fun _ => nilS
  | .brk => .ofS fun _ ρ S => .ok (.bk ρ) S
  | .cont => .ofS fun _ ρ S => .ok (.ct ρ) S
  | .ret a => .ofS fun _ => retS (ev V a).e
  | .set i a => .ofS fun _ => setS i (ev V a).e
  | .setc i a => .ofS fun _ => setS i (ev V a).e
  | .asg tg a => .ofS fun _ => asgS (ev V a).e (ev V tg).g
  | .par2 i j a b => .ofS fun _ => par2S i j (consA (ev V a).e (consA (ev V b).e nilA))
  | .par3 i j l a b c => .ofS fun _ => par3S i j l (consA (ev V a).e (consA (ev V b).e (consA (ev V c).e nilA)))
  | .drop a => .ofS fun _ => dropS (ev V a).e
  | .ite c a b => .ofS fun n => ifS (ev V c).t ((ev V a).s n) ((ev V b).s n)
  | .for_ it tg body => .ofS fun n => forS (ev V it).i (ev V tg).g ((ev V body).s n)
  | .forz a b tg body => .ofS fun n => forZ n (consA (ev V a).e (consA (ev V b).e nilA)) (ev V tg).g ((ev V body).s n)
  | .while_ c body => .ofS fun n => whileL (ev V c).t ((ev V body).s n) FUEL
  | .setit o i v => .ofS fun _ => setItem (ev V o).e (ev V i).e (ev V v).e
  | .raise c => .ofS fun _ => raiseS c
  | .gc ks s => .ofS fun n => gcS n ks ((ev V s).s n)
  | .tryk i a => .ofS fun _ => tryS i (ev V a).e V.res
/-- the slots that a target sets -/
def slotsT : T → List Nat
  | .gnm i => [i]
  | .gtup as => slotsT as
  | .cons a as => slotsT a ++ slotsT as
  | _ => []

/-! ### do the words say what stands in the program? -/
/-- what is known of the module -/
structure Gc where
  fns : List (Str × Nat)
  nums : List (Str × Int)
  clss : List Str
  rais : List Nat
  none : List Str
  far : Str
  kind : Str
  hot : Bool
/-- where one stands -/
structure Cc where
  N : List Str
  sc : Scope
  calm : Bool
  fnB : Str → Bool
  body : Bool
def kindIs (sc : Scope) (x : Str) (k : NameKind) : Bool := sc.names.lookup x == some k
def visB (sc : Scope) (x : Str) : Bool := kindIs sc x .local || kindIs sc x .cell || kindIs sc x .free
def locB (c : Cc) (x : Str) : Bool := (kindIs c.sc x .local || kindIs c.sc x .cell) && (c.fnB x || kindIs c.sc x .local)
def plainN (x : Str) : Bool := !(x == ("__debug__" : Str)) && !(x == ("__classdict__" : Str)) && !(x == ("__name__" : Str))
def glB (c : Cc) (x : Str) : Bool := kindIs c.sc x .globalImplicit && plainN x
def absB (C : Gc) (c : Cc) (x : Str) : Bool := glB c x && C.none.contains x
def Bf.nm : Bf → Str
  | .len => "len" | .isi => "isinstance" | .int => "int" | .abs => "abs" | .max2 => "max" | .min2 => "min" | .tuple => "tuple" | .list => "list" | .sum => "sum" | .all => "all" | .any => "any"
def Mt.nm : Mt → Str
  | .append => "append" | .extend => "extend" | .reverse => "reverse" | .pop => "pop" | .popAt => "pop" | .count => "count" | .countB => "count" | .indexB => "index"
def tyNm : String → Option Str
  | "int" => some "int" | "bool" => some "bool" | "tuple" => some "tuple" | "list" => some "list" | "str" => some "str" | "dict" => some "dict" | "ValueError" => some "ValueError"
  | _ => none
def okBin : Operator → Bool
  | .Add => true | .Sub => true | .Mult => true | .FloorDiv => true | .Mod => true | .Pow => true | .LShift => true | .BitAnd => true
  | _ => false
structure Ck where
  e : Cc → Expr → Bool := fun _ _ => false
  a : Cc → List Expr → Bool := fun _ _ => false
  o : Cc → Option Expr → Bool := fun _ _ => false
  f : Cc → List Expr → Bool := fun _ _ => false
  g : Cc → Expr → Bool := fun _ _ => false
  gs : Cc → List Expr → Bool := fun _ _ => false
  i : Cc → Expr → Expr → Bool := fun _ _ _ => false
  s : Cc → Stmt → Bool := fun _ _ => false
  b : Cc → List Stmt → Bool := fun _ _ => false
def swB (c : Cc) (x y : Str) (px py : Pos) (a b : Expr) : Bool :=
  kindIs c.sc x .local && kindIs c.sc y .local && (py.line == px.line) && !(x == y) && starless a && starless b && !(foldedForSure 8 a && foldedForSure 8 b) && !(constantsAlone 8 a && constantsAlone 8 b) && (c.sc.kind == .function)
def swB3 (c : Cc) (x y z : Str) (px py pz : Pos) (a b d : Expr) : Bool :=
  kindIs c.sc x .local && kindIs c.sc y .local && kindIs c.sc z .local && (py.line == px.line) && (pz.line == px.line) && !(x == y) && !(x == z) && !(y == z) && starless a && starless b && starless d && !(foldedForSure 8 a && (foldedForSure 8 b && foldedForSure 8 d)) && !(constantsAlone 8 a && (constantsAlone 8 b && constantsAlone 8 d)) && (c.sc.kind == .function)
def isC : T → Bool
  | .comp _ _ _ _ _ _ => true
  | _ => false
def isW : T → Bool
  | .and1 _ => true | .and2 _ _ => true | .or1 _ => true | .or2 _ _ => true
  | _ => false
def ck (C : Gc) : T → Ck
  | .bad => { e := fun _ _ => true, s := fun _ _ => true }
  | .nm i => { e := fun c e => match e with
      | .Name x _ => (c.N[i]? == some x) && visB c.sc x && plainN x
      | _ => false }
  | .int i => { e := fun _ e => match e with
      | .Constant (.int j) _ _ => i == j
      | _ => false }
  | .bl i => { e := fun _ e => match e with
      | .Constant (.bool j) _ _ => i == j
      | _ => false }
  | .non => { e := fun _ e => match e with
      | .Constant .none _ _ => true
      | _ => false }
  | .str i => { e := fun _ e => match e with
      | .Constant (.str j) _ _ => i == j
      | _ => false }
  | .gint y i => { e := fun c e => match e with
      | .Name x _ => (x == y) && glB c x && C.nums.contains (x, i)
      | _ => false }
  | .tyN n => { e := fun c e => match e with
      | .Name x _ => (tyNm n == some x) && absB C c x
      | _ => false }
  | .gcls k => { e := fun c e => match e with
      | .Name x _ => (C.clss[k]? == some x) && glB c x
      | _ => false }
  | .bin op a b => { e := fun c e => match e with
      | .BinOp x o y _ => (op == o) && okBin op && (ck C a).e c x && (ck C b).e c y
      | _ => false }
  | .neg a => { e := fun c e => match e with
      | .UnaryOp .USub x _ => (ck C a).e c x
      | _ => false }
  | .cmp op a b => { e := fun c e => match e with
      | .Compare x [o] [y] _ => (op == o) && okC op && (ck C a).e c x && (ck C b).e c y && setless y
      | _ => false }
  | .cmp3 op op' a b d => { e := fun c e => match e with
      | .Compare x [o, o'] [y, z] _ => (op == o) && okC op && (op' == o') && okC op' && (ck C a).e c x && (ck C b).e c y && (ck C d).e c z && setless z
      | _ => false }
  | .and1 a => { e := fun c e => match e with
      | .BoolOp .And [x] _ => (ck C a).e c x
      | _ => false }
  | .and2 a b => { e := fun c e => match e with
      | .BoolOp .And (x :: y :: r) p => isW b && (ck C a).e c x && (ck C b).e c (.BoolOp .And (y :: r) p)
      | _ => false }
  | .or1 a => { e := fun c e => match e with
      | .BoolOp .Or [x] _ => (ck C a).e c x
      | _ => false }
  | .or2 a b => { e := fun c e => match e with
      | .BoolOp .Or (x :: y :: r) p => isW b && (ck C a).e c x && (ck C b).e c (.BoolOp .Or (y :: r) p)
      | _ => false }
  | .not a => { e := fun c e => match e with
      | .UnaryOp .Not x _ => (ck C a).e c x
      | _ => false }
  | .ifx t a b => { e := fun c e => match e with
      | .IfExp x y z _ => (ck C t).e c x && (ck C a).e c y && (ck C b).e c z
      | _ => false }
  | .tup as => { e := fun c e => match e with
      | .Tuple xs _ _ => (ck C as).a c xs
      | _ => false }
  | .lst as => { e := fun c e => match e with
      | .List xs _ => (ck C as).a c xs
      | _ => false }
  | .new as => { e := fun c e => match e with
      | .List xs _ => (ck C as).a c xs
      | _ => false }
  | .dnew => { e := fun _ e => match e with
      | .Dict [] [] _ => true
      | _ => false }
  | .d0 => { e := fun _ e => match e with
      | .Dict [] [] _ => true
      | _ => false }
  | .ix a b => { e := fun c e => match e with
      | .Subscript x y _ => (ck C a).e c x && (ck C b).e c y && sliceless y
      | _ => false }
  | .sl a lo hi => { e := fun c e => match e with
      | .Subscript x (.Slice l h none _) _ => (ck C a).e c x && (ck C lo).o c l && (ck C hi).o c h
      | _ => false }
  | .dget a b => { e := fun c e => match e with
      | .Subscript x y _ => (ck C a).e c x && (ck C b).e c y && sliceless y
      | _ => false }
  | .din neg a b => { e := fun c e => match e with
      | .Compare x [op] [y] _ => (op == (if neg then CmpOp.NotIn else CmpOp.In)) && (ck C a).e c x && (ck C b).e c y && setless y
      | _ => false }
  | .dget2 o a b => { e := fun c e => match e with
      | .Call (.Attribute z nm ap) [x, y] [] cp => (nm == ("get" : Str)) && (ck C o).e c z && (ck C a).e c x && (ck C b).e c y && callless z && starless x && starless y && (ap.endLine == cp.line)
      | _ => false }
  | .callB f as => { e := fun c e => match e with
      | .Call (.Name x _) (y :: r) [] _ => (f.nm == x) && absB C c x && (ck C as).a c (y :: r) && (c.calm || (match f with | .len => true | .isi => true | .int => true | .abs => true | .tuple => true | .list => true | _ => false))
      | _ => false }
  | .call f as => { e := fun c e => match e with
      | .Call (.Name x _) (y :: r) [] _ => (match C.fns[f]? with | some (n, k) => (n == x) && glB c x && (ck C as).a c (y :: r) && c.calm | none => false)
      | _ => false }
  | .meth m o as => { e := fun c e => match e with
      | .Call (.Attribute z nm ap) xs [] cp => (m.nm == nm) && (ck C o).e c z && callless z && (ap.endLine == cp.line) && (match m with
          | .reverse => xs.isEmpty | .pop => xs.isEmpty
          | _ => !xs.isEmpty && (ck C as).a c xs && decide (xs.length < 20))
      | _ => false }
  | .frz a => { e := fun c e => (ck C a).e c e }
  | .comp ref own it tg ifs elt => { e := fun c e => match e with
      | .ListComp x [⟨g, i, fs, 0⟩] sc _ => c.calm && (ck C it).i c g i && blkC c.N c.sc sc own && ((slotsT tg).all fun j => (own.map (·.2)).contains j) && setless i &&
          (let c' : Cc := { N := c.N, sc := relS sc c.sc, calm := true, fnB := fun y => kindIs sc y .cell, body := false }
           (ck C tg).g c' g && (ck C ifs).f c' fs && (ck C elt).e c' x)
      | _ => false }
  | .nil => { a := fun _ es => es.isEmpty, o := fun _ e => e.isNone, f := fun _ es => es.isEmpty, gs := fun _ es => es.isEmpty, b := fun _ ss => ss.isEmpty }
  | .cons a as => {
      a := (fun c es => match es with
      | e :: es => (ck C a).e c e && starless e && (ck C as).a c es
      | [] => false),
      o := (fun c e => match e with
      | some e => (ck C a).e c e
      | none => false),
      f := (fun c es => match es with
      | [e] => (ck C a).e c e
      | _ => false),
      gs := (fun c es => match es with
      | e :: es => (ck C a).g c e && starless e && (ck C as).gs c es
      | [] => false),
      b := (fun c ss => match ss with
      | s :: ss => (ck C a).s c s && (ck C as).b c ss
      | [] => false) }
  | .gnm i => { g := fun c e => match e with
      | .Name x _ => (c.N[i]? == some x) && locB c x
      | _ => false }
  | .gtup as => { g := fun c e => match e with
      | .Tuple es _ _ => c.calm && (ck C as).gs c es && es.all starless && (lenT as == es.length)
      | _ => false }
  | .iseq a => { i := fun c _ e => (ck C a).e c e }
  | .irange1 a => { i := fun c _ e => match e with
      | .Call (.Name x _) [y] [] _ => (x == ("range" : Str)) && absB C c x && (ck C a).e c y && starless y
      | _ => false }
  | .irange2 a b => { i := fun c _ e => match e with
      | .Call (.Name x _) [y, z] [] _ => (x == ("range" : Str)) && absB C c x && (ck C a).e c y && starless y && (ck C b).e c z && starless z
      | _ => false }
  | .izip a b => { i := fun c g e => match g, e with
      | .Tuple _ _ _, .Call (.Name x _) [y, z] [] _ => (x == ("zip" : Str)) && absB C c x && (ck C a).e c y && starless y && (ck C b).e c z && starless z
      | _, _ => false }
  | .pass => { s := fun _ s => match s with
      | .Pass _ => true
      | _ => false }
  | .brk => { s := fun _ s => match s with
      | .Break _ => true
      | _ => false }
  | .cont => { s := fun _ s => match s with
      | .Continue _ => true
      | _ => false }
  | .ret a => { s := fun c s => match s with
      | .Return (some e) _ => (ck C a).e c e
      | _ => false }
  | .set i a => { s := fun c s => match s with
      | .Assign [.Name x _] e _ => (c.N[i]? == some x) && locB c x && compless e && (ck C a).e c e
      | _ => false }
  | .setc i a => { s := fun c s => match s with
      | .Assign [.Name x px] (.ListComp el [⟨g, it, fs, 0⟩] sc p) _ => isC a && (c.N[i]? == some x) && kindIs c.sc x .local && (c.sc.kind == .function) && (px.line == p.line) && !(sc.names.any fun (n, k) => n == x && (k == .local || k == .cell)) && (ck C a).e c (.ListComp el [⟨g, it, fs, 0⟩] sc p)
      | _ => false }
  | .asg tg a => { s := fun c s => match s with
      | .Assign [g] e _ => (ck C tg).g c g && starless g && compless e && tupless e && (ck C a).e c e
      | _ => false }
  | .par2 i j a b => { s := fun c s => match s with
      | .Assign [.Tuple [.Name x px, .Name y py] _ _] (.Tuple [d, e] _ _) _ => c.calm && (c.N[i]? == some x) && (c.N[j]? == some y) && !(i == j) && swB c x y px py d e && (ck C a).e c d && (ck C b).e c e
      | _ => false }
  | .par3 i j l a b d => { s := fun c s => match s with
      | .Assign [.Tuple [.Name x px, .Name y py, .Name z pz] _ _] (.Tuple [e, f, h] _ _) _ => c.calm && (c.N[i]? == some x) && (c.N[j]? == some y) && (c.N[l]? == some z) && !(i == j) && !(i == l) && !(j == l) && swB3 c x y z px py pz e f h && (ck C a).e c e && (ck C b).e c f && (ck C d).e c h
      | _ => false }
  | .drop a => { s := fun c s => match s with
      | .Expr e _ => compless e && (ck C a).e c e
      | _ => false }
  | .ite t a b => { s := fun c s => match s with
      | .If e x y _ => (ck C t).e c e && (ck C a).b c x && (ck C b).b c y
      | _ => false }
  | .for_ it tg body => { s := fun c s => match s with
      | .For g i b [] _ => c.calm && c.body && (ck C it).i c g i && (ck C tg).g c g && (ck C body).b c b && setless i
      | _ => false }
  | .forz a b tg body => { s := fun c s => match s with
      | .For (.Tuple es k p) (.Call (.Name x _) [y, z] [] _) bd [] _ => c.calm && c.body && (x == ("zip" : Str)) && absB C c x && (ck C a).e c y && starless y && (ck C b).e c z && starless z && (ck C tg).g c (.Tuple es k p) && (ck C body).b c bd
      | _ => false }
  | .while_ t body => { s := fun c s => match s with
      | .While e b [] _ => c.body && (ck C t).e c e && (ck C body).b c b
      | _ => false }
  | .setit o i v => { s := fun c s => match s with
      | .Assign [.Subscript x y _] e _ => (ck C o).e c x && (ck C i).e c y && (ck C v).e c e && sliceless y && compless e && tupless e
      | _ => false }
  | .raise k => { s := fun c s => match s with
      | .Raise (some (.Call (.Name x _) [] [] _)) none _ => c.calm && C.rais.contains k && (C.clss[k]? == some x) && glB c x
      | _ => false }
  | .gc ks s => { s := fun c st => (ck C s).s c st }
  | .tryk i a => { s := fun c s => match s with
      | .Try [.Return (some e) _] [.ExceptHandler (some (.Name x _)) (some nm) [.Return (some (.Call (.Name kx _) [.Name nm2 _] [] _)) _] _] [] [] _ => C.hot && c.calm && c.body && (ck C a).e { c with body := false } e && (c.N[i]? == some nm) && (nm == nm2) && kindIs c.sc nm .local && plainN nm && (x == C.far) && glB c x && (kx == C.kind) && glB c kx
      | _ => false }
end Pq

namespace Pq
open PySem PySem.Spec PyProof.Rows L2 L2H

/-- what the module bears -/
structure Md (V : Gv) (C : Gc) (G : Tab) (P : Program) (w : World) (K : PySem.W.Frag) (mg : Str → Option Value) (base : Heap) (k : Nat) : Prop where
  none : ∀ x, C.none.contains x = true → mg x = none
  nums : ∀ x i, C.nums.contains (x, i) = true → ∃ t, mg x = some (.int i t)
  clss : ∀ c x, C.clss[c]? = some x → mg x = some (.ref (G.cls c)) ∧ PySem.W.keepIn K (.ref (G.cls c)) = true
  rais : ∀ c x, C.rais.contains c = true → C.clss[c]? = some x → ∃ (B newId initId : String) (bmB : List Value), ExcBaseFacts B newId initId bmB ∧ PySem.W.excIn K (G.cls c) bmB newId = true ∧ PySem.W.subIn K (.ref (G.cls c)) (.type "BaseException") = some true ∧ PySem.W.typeIn K (.ref (G.cls c)) = some (.type "type")
  fns : ∀ f n j, C.fns[f]? = some (n, j) → ∃ a fd ps, FnOk P w K mg base (L2.CX P w) k a fd ps (spF K G j (V.call f)) ∧ (∀ S us, us.length ≠ j → V.call f S us = .bad) ∧ mg n = some (.ref a) ∧ PySem.W.keepIn K (.ref a) = true ∧ Binds K fd ps []
  kind : C.hot = true → ∃ fk fd ps Cf, FnP P w K mg base (L2.CX P w) k fk fd ps (spKind K G V.res) ∧ mg C.kind = some (.ref fk) ∧ PySem.W.keepIn K (.ref fk) = true ∧ Binds K fd ps [] ∧ mg C.far = some (.ref Cf) ∧ ∀ c r, V.res c = some r → PySem.W.exmOne K (.ref (G.cls c)) (.ref Cf) = some true
structure Ctx (V : Gv) (C : Gc) (G : Tab) (P : Program) (w : World) (K : PySem.W.Frag) (mg : Str → Option Value) (base : Heap) (k : Nat) (c : Cc) (X : Cx) (W : WX) : Prop where
  prog : X.prog = P
  w : X.w = w
  K : X.K = K
  mg : X.mg = mg
  base : X.base = base
  N : X.N = c.N
  sc : X.env.scope = c.sc
  nodup : c.N.Nodup
  calm : c.calm = true → X.calm = true
  fnB : ∀ x, c.fnB x = true → X.fn x = true
  hu : X.A.units + 64 < cLine
  exn : ExnOk X G V.sub
  noex : c.calm = true → ∀ a, G.exn a = none
  room : c.calm = true → Room k X.A
  takes : c.calm = true → Takes X W
  own : c.body = true → PassesOwn (model X.prog X.w) X.A X.env X.xe
  stk : c.body = true → X.stack = X.env :: X.outer ∧ X.env.frame = some X.env.locals

structure Snd (V : Gv) (C : Gc) (G : Tab) (P : Program) (w : World) (K : PySem.W.Frag) (mg : Str → Option Value) (base : Heap) (k : Nat) (τ : T) : Prop where
  e : ∀ c X W e, Ctx V C G P w K mg base k c X W → (ck C τ).e c e = true → EE X G W e (ev V τ).e := by intro c X W e _ h; exact absurd (show false = true from h) Bool.false_ne_true
  t : ∀ c X W e, Ctx V C G P w K mg base k c X W → (ck C τ).e c e = true → ET X G W e (ev V τ).t := by intro c X W e _ h; exact absurd (show false = true from h) Bool.false_ne_true
  wh : isW τ = true → ∀ c X W e, Ctx V C G P w K mg base k c X W → (ck C τ).e c e = true → EW X G W e (ev V τ).t := by intro h; exact absurd (show false = true from h) Bool.false_ne_true
  sc : isC τ = true → ∀ c X W n i x px e p, Ctx V C G P w K mg base k c X W → (ck C τ).e c e = true → X.N[i]? = some x → X.env.scope.names.lookup x = some .local → swapsWith e (some (.Name x px)) p.line X.env = pure true → SS X G W n (.Assign [.Name x px] e p) (setS i (ev V τ).e) := by intro h; exact absurd (show false = true from h) Bool.false_ne_true
  a : ∀ c X W es, Ctx V C G P w K mg base k c X W → (ck C τ).a c es = true → EA X G W es (ev V τ).a ∧ es.all starless = true := by intro c X W e _ h; exact absurd (show false = true from h) Bool.false_ne_true
  o : ∀ c X W e, Ctx V C G P w K mg base k c X W → (ck C τ).o c e = true → EO X G W e (ev V τ).o := by intro c X W e _ h; exact absurd (show false = true from h) Bool.false_ne_true
  f : ∀ c X scope es, (∀ (s : Shared) (H : Hp) (A : Addr) (cl : List (Str × Addr)) (fp : List Addr), Ctx V C G P w K mg base k c (X.blk s H scope (compEnvC scope cl A X.env) fp) (fun _ _ _ _ => False)) → (ck C τ).f c es = true → EIfB X G scope es (ev V τ).f := by intro c X W e _ h; exact absurd (show false = true from h) Bool.false_ne_true
  g : ∀ c X W e, Ctx V C G P w K mg base k c X W → (ck C τ).g c e = true → EG X G e (ev V τ).g (slotsT τ) := by intro c X W e _ h; exact absurd (show false = true from h) Bool.false_ne_true
  gs : ∀ c X W es, Ctx V C G P w K mg base k c X W → (ck C τ).gs c es = true → EGs X G es (ev V τ).gs (slotsT τ) := by intro c X W e _ h; exact absurd (show false = true from h) Bool.false_ne_true
  i : ∀ c X W g e, Ctx V C G P w K mg base k c X W → (ck C τ).i c g e = true → EI X G W g e (ev V τ).i := by intro c X W g e _ h; exact absurd (show false = true from h) Bool.false_ne_true
  s : ∀ c X W n e, Ctx V C G P w K mg base k c X W → (ck C τ).s c e = true → SS X G W n e ((ev V τ).s n) := by intro c X W n e _ h; exact absurd (show false = true from h) Bool.false_ne_true
  b : ∀ c X W n es, Ctx V C G P w K mg base k c X W → (ck C τ).b c es = true → SSs X G W n es ((ev V τ).s n) := by intro c X W n e _ h; exact absurd (show false = true from h) Bool.false_ne_true

/-! ### small laws -/
theorem kindIs_iff {sc : Scope} {x : Str} {k : NameKind} (h : kindIs sc x k = true) : sc.names.lookup x = some k := by
  unfold kindIs at h; exact eq_of_beq h
theorem visB_ok {sc : Scope} {x : Str} (h : visB sc x = true) : Vis sc x := by
  unfold visB at h
  simp only [Bool.or_eq_true] at h
  rcases h with (h | h) | h
  · exact .inl (kindIs_iff h)
  · exact .inr (.inl (kindIs_iff h))
  · exact .inr (.inr (kindIs_iff h))
theorem plainN_ok {x : Str} (h : plainN x = true) : (x == ("__debug__" : Str)) = false ∧ (x == ("__classdict__" : Str)) = false ∧ x ≠ ("__name__" : Str) := by
  unfold plainN at h
  simp only [Bool.and_eq_true, Bool.not_eq_true'] at h
  exact ⟨h.1.1, h.1.2, fun e => by rw [e] at h; simp at h⟩
section
variable {V : Gv} {C : Gc} {G : Tab} {P : Program} {w : World} {K : PySem.W.Frag} {mg : Str → Option Value} {base : Heap} {k : Nat} {c : Cc} {X : Cx} {W : WX} {x : Str}
theorem gl_ok (q : Ctx V C G P w K mg base k c X W) (h : glB c x = true) : Gl X x ∧ (x == ("__debug__" : Str)) = false ∧ x ≠ ("__name__" : Str) := by
  unfold glB at h
  simp only [Bool.and_eq_true] at h
  exact ⟨by show X.env.scope.names.lookup x = _; rw [q.sc]; exact kindIs_iff h.1, (plainN_ok h.2).1, (plainN_ok h.2).2.2⟩
theorem abs_ok' (M : Md V C G P w K mg base k) (q : Ctx V C G P w K mg base k c X W) (h : absB C c x = true) : Gl X x ∧ (x == ("__debug__" : Str)) = false ∧ x ≠ ("__name__" : Str) ∧ X.mg x = none := by
  unfold absB at h
  simp only [Bool.and_eq_true] at h
  obtain ⟨a, b, d⟩ := gl_ok q h.1
  exact ⟨a, b, d, by rw [q.mg]; exact M.none _ h.2⟩
theorem loc_ok (q : Ctx V C G P w K mg base k c X W) (h : locB c x = true) : Loc X.env.scope x ∧ (X.fn x = true ∨ X.env.scope.names.lookup x = some .local) := by
  unfold locB at h
  simp only [Bool.and_eq_true, Bool.or_eq_true] at h
  rw [q.sc]
  exact ⟨h.1.elim (fun h => .inl (kindIs_iff h)) fun h => .inr (kindIs_iff h), h.2.elim (fun h => .inl (q.fnB _ h)) fun h => .inr (kindIs_iff h)⟩
theorem et_bad {e : Expr} : ET X G W e (fun _ _ => .bad) := ⟨fun _ _ _ => False, ⟨fun _ _ _ _ _ _ h => h.elim⟩, fun σ H ρ S F μ Q R E q => q⟩
theorem ctx_tr (q : Ctx V C G P w K mg base k c X W) (hc : c.calm = true) {W' : WX} {pn : List (Addr × Obj)} {xe : Value → Shared → Prop} (tk : Takes (X.tr pn xe) W') : Ctx V C G P w K mg base k { c with body := false } (X.tr pn xe) W' :=
  { prog := q.prog, w := q.w, K := q.K, mg := q.mg, base := q.base, N := q.N, sc := q.sc, nodup := q.nodup, calm := q.calm, fnB := q.fnB, hu := q.hu, exn := ⟨fun a c h => by rw [q.noex hc a] at h; cases h⟩, noex := q.noex, room := q.room
    takes := fun _ => tk, own := fun h => absurd h Bool.false_ne_true, stk := fun h => absurd h Bool.false_ne_true }
theorem takes_nil {X : Cx} : Takes X (fun _ _ _ _ => False) := fun _ _ ⟨_, _, _, _, _, _, _, _, _, _, _, _, _, _, _, _, w⟩ => w.elim
theorem ctx_blk (q : Ctx V C G P w K mg base k c X W) (hc : c.calm = true) {sc : Scope} (s : Shared) (H : Hp) (A : Addr) (cl : List (Str × Addr)) (fp : List Addr) :
    Ctx V C G P w K mg base k { N := c.N, sc := relS sc c.sc, calm := true, fnB := fun y => kindIs sc y .cell, body := false } (X.blk s H sc (compEnvC sc cl A X.env) fp) (fun _ _ _ _ => False) :=
  { prog := q.prog, w := q.w, K := q.K, mg := q.mg, base := q.base, N := q.N, sc := by show relS sc X.env.scope = _; rw [q.sc], nodup := q.nodup, calm := fun _ => q.calm hc, fnB := fun x h => h, hu := q.hu, exn := ⟨fun a c h => by rw [q.noex hc a] at h; cases h⟩, noex := fun _ => q.noex hc, room := fun _ => q.room hc
    takes := fun _ => takes_nil, own := fun h => absurd h Bool.false_ne_true, stk := fun h => absurd h Bool.false_ne_true }
end
theorem starred_c {a : Expr} (h : starless a = true) : (match a with | .Starred .. => true | _ => false) = false := by
  cases a <;> first | rfl | cases h

section
variable {V : Gv} {C : Gc} {G : Tab} {P : Program} {w : World} {K : PySem.W.Frag} {mg : Str → Option Value} {base : Heap} {k : Nat} {c : Cc} {X : Cx} {W : WX} {x : Str}
abbrev CtxOf (V : Gv) (C : Gc) (G : Tab) (P : Program) (w : World) (K : PySem.W.Frag) (mg : Str → Option Value) (base : Heap) (k : Nat) := Ctx V C G P w K mg base k
theorem Snd.ofE {τ : T} {f : SemE} (h1 : (ev V τ).e = f) (h2 : (ev V τ).t = valT f) (hw : isW τ = false)
    (hx : ∀ c X W e, Ctx V C G P w K mg base k c X W → (ck C τ).e c e = true → EE X G W e f ∧ plainT e = true)
    (ha : ∀ c es, (ck C τ).a c es = false) (ho : ∀ c es, (ck C τ).o c es = false) (hf : ∀ c es, (ck C τ).f c es = false) (hg : ∀ c es, (ck C τ).g c es = false) (hgs : ∀ c es, (ck C τ).gs c es = false) (hi : ∀ c g es, (ck C τ).i c g es = false)
    (hs : ∀ c es, (ck C τ).s c es = false) (hb : ∀ c es, (ck C τ).b c es = false) (hC : isC τ = false := by rfl) : Snd V C G P w K mg base k τ where
  e := fun c X W e q h => by rw [h1]; exact (hx c X W e q h).1
  t := fun c X W e q h => by rw [h2]; exact et_val (hx c X W e q h).1 (hx c X W e q h).2
  wh := fun h => by rw [hw] at h; cases h
  sc := fun h => by rw [hC] at h; cases h
  a := fun c X W es _ h => by rw [ha] at h; cases h
  o := fun c X W es _ h => by rw [ho] at h; cases h
  f := fun c X W es _ h => by rw [hf] at h; cases h
  g := fun c X W es _ h => by rw [hg] at h; cases h
  gs := fun c X W es _ h => by rw [hgs] at h; cases h
  i := fun c X W g es _ h => by rw [hi] at h; cases h
  s := fun c X W n es _ h => by rw [hs] at h; cases h
  b := fun c X W n es _ h => by rw [hb] at h; cases h
end
section
variable {V : Gv} {C : Gc} {G : Tab} {P : Program} {w : World} {K : PySem.W.Frag} {mg : Str → Option Value} {base : Heap} {k : Nat}
theorem snd_nm (i : Nat) : Snd V C G P w K mg base k (.nm i) :=
  .ofE rfl rfl rfl (fun c X W e q h => by
    simp only [ck] at h
    split at h
    · rename_i x p
      simp only [Bool.and_eq_true, beq_iff_eq] at h
      exact ⟨ee_nm (by rw [q.N]; exact h.1.1) (by rw [q.sc]; exact visB_ok h.1.2) (plainN_ok h.2).1 (plainN_ok h.2).2.1, rfl⟩
    · cases h) (fun _ _ => rfl) (fun _ _ => rfl) (fun _ _ => rfl) (fun _ _ => rfl) (fun _ _ => rfl) (fun _ _ _ => rfl) (fun _ _ => rfl) (fun _ _ => rfl)
end
end Pq

namespace Pq
open PySem PySem.Spec PyProof.Rows L2 L2H
section
variable {V : Gv} {C : Gc} {G : Tab} {P : Program} {w : World} {K : PySem.W.Frag} {mg : Str → Option Value} {base : Heap} {k : Nat}

theorem tyNm_ok {n : String} {x : Str} (h : tyNm n = some x) : bootBuiltins x = some (.type n) := by
  unfold tyNm at h
  split at h <;> first | (cases h; decide +kernel) | cases h

theorem snd_int (i : Int) : Snd V C G P w K mg base k (.int i) := by
  refine .ofE rfl rfl rfl (fun c X W e q h => ?_) (fun _ _ => rfl) (fun _ _ => rfl) (fun _ _ => rfl) (fun _ _ => rfl) (fun _ _ => rfl) (fun _ _ _ => rfl) (fun _ _ => rfl) (fun _ _ => rfl)
  simp only [ck] at h
  split at h
  · rename_i j p1 p2
    try simp only [Bool.and_eq_true, beq_iff_eq] at h
    exact ⟨h ▸ ee_k pe_int fun F => .int _, rfl⟩
  · cases h

theorem snd_bl (i : Bool) : Snd V C G P w K mg base k (.bl i) := by
  refine .ofE rfl rfl rfl (fun c X W e q h => ?_) (fun _ _ => rfl) (fun _ _ => rfl) (fun _ _ => rfl) (fun _ _ => rfl) (fun _ _ => rfl) (fun _ _ _ => rfl) (fun _ _ => rfl) (fun _ _ => rfl)
  simp only [ck] at h
  split at h
  · rename_i j p1 p2
    try simp only [Bool.and_eq_true, beq_iff_eq] at h
    exact ⟨h ▸ ee_k pe_bl fun F => .bl _, rfl⟩
  · cases h

theorem snd_str (i : Str) : Snd V C G P w K mg base k (.str i) := by
  refine .ofE rfl rfl rfl (fun c X W e q h => ?_) (fun _ _ => rfl) (fun _ _ => rfl) (fun _ _ => rfl) (fun _ _ => rfl) (fun _ _ => rfl) (fun _ _ _ => rfl) (fun _ _ => rfl) (fun _ _ => rfl)
  simp only [ck] at h
  split at h
  · rename_i j p1 p2
    try simp only [Bool.and_eq_true, beq_iff_eq] at h
    exact ⟨h ▸ ee_k pe_str fun F => .str _, rfl⟩
  · cases h

theorem snd_non : Snd V C G P w K mg base k (.non) := by
  refine .ofE rfl rfl rfl (fun c X W e q h => ?_) (fun _ _ => rfl) (fun _ _ => rfl) (fun _ _ => rfl) (fun _ _ => rfl) (fun _ _ => rfl) (fun _ _ _ => rfl) (fun _ _ => rfl) (fun _ _ => rfl)
  simp only [ck] at h
  split at h
  · exact ⟨ee_k pe_non fun F => .non, rfl⟩
  · cases h

theorem snd_gint (M : Md V C G P w K mg base k) (y : Str) (i : Int) : Snd V C G P w K mg base k (.gint y i) := by
  refine .ofE rfl rfl rfl (fun c X W e q h => ?_) (fun _ _ => rfl) (fun _ _ => rfl) (fun _ _ => rfl) (fun _ _ => rfl) (fun _ _ => rfl) (fun _ _ _ => rfl) (fun _ _ => rfl) (fun _ _ => rfl)
  simp only [ck] at h
  split at h
  · rename_i x p
    try simp only [Bool.and_eq_true, beq_iff_eq] at h
    exact ⟨(by obtain ⟨t, ht⟩ := M.nums x i h.2; exact ee_k (pe_glob (v := .int i) (gl_ok q h.1.2).1 (by rw [q.mg]; exact ht) ⟨t, rfl⟩ (gl_ok q h.1.2).2.1) fun F => .int _), rfl⟩
  · cases h

theorem snd_tyN (M : Md V C G P w K mg base k) (n : String) : Snd V C G P w K mg base k (.tyN n) := by
  refine .ofE rfl rfl rfl (fun c X W e q h => ?_) (fun _ _ => rfl) (fun _ _ => rfl) (fun _ _ => rfl) (fun _ _ => rfl) (fun _ _ => rfl) (fun _ _ _ => rfl) (fun _ _ => rfl) (fun _ _ => rfl)
  simp only [ck] at h
  split at h
  · rename_i x p
    try simp only [Bool.and_eq_true, beq_iff_eq] at h
    exact ⟨(by obtain ⟨a, b, d, z⟩ := abs_ok' M q h.2; exact ee_k (pe_bltn (v := .ty n) a z (tyNm_ok h.1) rfl d b) fun F => .ty _), rfl⟩
  · cases h

theorem snd_gcls (M : Md V C G P w K mg base k) (n : Nat) : Snd V C G P w K mg base k (.gcls n) := by
  refine .ofE rfl rfl rfl (fun c X W e q h => ?_) (fun _ _ => rfl) (fun _ _ => rfl) (fun _ _ => rfl) (fun _ _ => rfl) (fun _ _ => rfl) (fun _ _ _ => rfl) (fun _ _ => rfl) (fun _ _ => rfl)
  simp only [ck] at h
  split at h
  · rename_i x p
    try simp only [Bool.and_eq_true, beq_iff_eq] at h
    exact ⟨(by obtain ⟨a, b, d⟩ := gl_ok q h.2; exact ee_k (pe_glob (v := .ref (G.cls n)) a (by rw [q.mg]; exact (M.clss n x h.1).1) rfl b) fun F => .cls _), rfl⟩
  · cases h

theorem snd_bin (op : Operator) (a b : T) (ha : Snd V C G P w K mg base k a) (hb : Snd V C G P w K mg base k b) : Snd V C G P w K mg base k (.bin op a b) := by
  refine .ofE rfl rfl rfl (fun c X W e q h => ?_) (fun _ _ => rfl) (fun _ _ => rfl) (fun _ _ => rfl) (fun _ _ => rfl) (fun _ _ => rfl) (fun _ _ _ => rfl) (fun _ _ => rfl) (fun _ _ => rfl)
  simp only [ck] at h
  split at h
  · rename_i x o y p
    try simp only [Bool.and_eq_true, beq_iff_eq] at h
    exact ⟨(by obtain ⟨⟨⟨h1, h2⟩, h3⟩, h4⟩ := h; subst h1; exact ee_bin _ h2 (ha.e _ _ _ _ q h3) (hb.e _ _ _ _ q h4)), rfl⟩
  · cases h

theorem snd_neg (a : T) (ha : Snd V C G P w K mg base k a) : Snd V C G P w K mg base k (.neg a) := by
  refine .ofE rfl rfl rfl (fun c X W e q h => ?_) (fun _ _ => rfl) (fun _ _ => rfl) (fun _ _ => rfl) (fun _ _ => rfl) (fun _ _ => rfl) (fun _ _ _ => rfl) (fun _ _ => rfl) (fun _ _ => rfl)
  simp only [ck] at h
  split at h
  · rename_i x p
    try simp only [Bool.and_eq_true, beq_iff_eq] at h
    exact ⟨ee_neg (ha.e _ _ _ _ q h), rfl⟩
  · cases h

theorem snd_tup (a : T) (ha : Snd V C G P w K mg base k a) : Snd V C G P w K mg base k (.tup a) := by
  refine .ofE rfl rfl rfl (fun c X W e q h => ?_) (fun _ _ => rfl) (fun _ _ => rfl) (fun _ _ => rfl) (fun _ _ => rfl) (fun _ _ => rfl) (fun _ _ _ => rfl) (fun _ _ => rfl) (fun _ _ => rfl)
  simp only [ck] at h
  split at h
  · rename_i xs x1 p
    try simp only [Bool.and_eq_true, beq_iff_eq] at h
    exact ⟨ee_tup (ha.a _ _ _ _ q h).1, rfl⟩
  · cases h

theorem snd_lst (a : T) (ha : Snd V C G P w K mg base k a) : Snd V C G P w K mg base k (.lst a) := by
  refine .ofE rfl rfl rfl (fun c X W e q h => ?_) (fun _ _ => rfl) (fun _ _ => rfl) (fun _ _ => rfl) (fun _ _ => rfl) (fun _ _ => rfl) (fun _ _ _ => rfl) (fun _ _ => rfl) (fun _ _ => rfl)
  simp only [ck] at h
  split at h
  · rename_i xs p
    try simp only [Bool.and_eq_true, beq_iff_eq] at h
    exact ⟨ee_lst (ha.a _ _ _ _ q h).1, rfl⟩
  · cases h

theorem snd_new (a : T) (ha : Snd V C G P w K mg base k a) : Snd V C G P w K mg base k (.new a) := by
  refine .ofE rfl rfl rfl (fun c X W e q h => ?_) (fun _ _ => rfl) (fun _ _ => rfl) (fun _ _ => rfl) (fun _ _ => rfl) (fun _ _ => rfl) (fun _ _ _ => rfl) (fun _ _ => rfl) (fun _ _ => rfl)
  simp only [ck] at h
  split at h
  · rename_i xs p
    try simp only [Bool.and_eq_true, beq_iff_eq] at h
    exact ⟨ee_new (ha.a _ _ _ _ q h).1, rfl⟩
  · cases h

theorem snd_dnew : Snd V C G P w K mg base k (.dnew) := by
  refine .ofE rfl rfl rfl (fun c X W e q h => ?_) (fun _ _ => rfl) (fun _ _ => rfl) (fun _ _ => rfl) (fun _ _ => rfl) (fun _ _ => rfl) (fun _ _ _ => rfl) (fun _ _ => rfl) (fun _ _ => rfl)
  simp only [ck] at h
  split at h
  · exact ⟨ee_newd, rfl⟩
  · cases h
theorem snd_d0 : Snd V C G P w K mg base k (.d0) := by
  refine .ofE rfl rfl rfl (fun c X W e q h => ?_) (fun _ _ => rfl) (fun _ _ => rfl) (fun _ _ => rfl) (fun _ _ => rfl) (fun _ _ => rfl) (fun _ _ _ => rfl) (fun _ _ => rfl) (fun _ _ => rfl)
  simp only [ck] at h
  split at h
  · exact ⟨ee_dict0, rfl⟩
  · cases h

theorem snd_ix (a b : T) (ha : Snd V C G P w K mg base k a) (hb : Snd V C G P w K mg base k b) : Snd V C G P w K mg base k (.ix a b) := by
  refine .ofE rfl rfl rfl (fun c X W e q h => ?_) (fun _ _ => rfl) (fun _ _ => rfl) (fun _ _ => rfl) (fun _ _ => rfl) (fun _ _ => rfl) (fun _ _ _ => rfl) (fun _ _ => rfl) (fun _ _ => rfl)
  simp only [ck] at h
  split at h
  · rename_i x y p
    try simp only [Bool.and_eq_true, beq_iff_eq] at h
    exact ⟨ee_ix (ha.e _ _ _ _ q h.1.1) (hb.e _ _ _ _ q h.1.2) h.2, rfl⟩
  · cases h

theorem snd_dget (a b : T) (ha : Snd V C G P w K mg base k a) (hb : Snd V C G P w K mg base k b) : Snd V C G P w K mg base k (.dget a b) := by
  refine .ofE rfl rfl rfl (fun c X W e q h => ?_) (fun _ _ => rfl) (fun _ _ => rfl) (fun _ _ => rfl) (fun _ _ => rfl) (fun _ _ => rfl) (fun _ _ _ => rfl) (fun _ _ => rfl) (fun _ _ => rfl)
  simp only [ck] at h
  split at h
  · rename_i x y p
    try simp only [Bool.and_eq_true, beq_iff_eq] at h
    exact ⟨ee_dget (by have := q.hu; omega) (ha.e _ _ _ _ q h.1.1) (hb.e _ _ _ _ q h.1.2) h.2, rfl⟩
  · cases h

theorem snd_sl (a l u : T) (ha : Snd V C G P w K mg base k a) (hl : Snd V C G P w K mg base k l) (hu : Snd V C G P w K mg base k u) : Snd V C G P w K mg base k (.sl a l u) := by
  refine .ofE rfl rfl rfl (fun c X W e q h => ?_) (fun _ _ => rfl) (fun _ _ => rfl) (fun _ _ => rfl) (fun _ _ => rfl) (fun _ _ => rfl) (fun _ _ _ => rfl) (fun _ _ => rfl) (fun _ _ => rfl)
  simp only [ck] at h
  split at h
  · rename_i x l1 h1 p2 p
    try simp only [Bool.and_eq_true, beq_iff_eq] at h
    exact ⟨ee_slice (ha.e _ _ _ _ q h.1.1) (hl.o _ _ _ _ q h.1.2) (hu.o _ _ _ _ q h.2), rfl⟩
  · cases h

theorem snd_dget2 (o a b : T) (ho : Snd V C G P w K mg base k o) (ha : Snd V C G P w K mg base k a) (hb : Snd V C G P w K mg base k b) : Snd V C G P w K mg base k (.dget2 o a b) := by
  refine .ofE rfl rfl rfl (fun c X W e q h => ?_) (fun _ _ => rfl) (fun _ _ => rfl) (fun _ _ => rfl) (fun _ _ => rfl) (fun _ _ => rfl) (fun _ _ _ => rfl) (fun _ _ => rfl) (fun _ _ => rfl)
  simp only [ck] at h
  split at h
  · rename_i z nm ap x y cp
    try simp only [Bool.and_eq_true, beq_iff_eq] at h
    exact ⟨ee_dget2 h.1.1.1.1.1.1.1 (by have := q.hu; omega) (ho.e _ _ _ _ q h.1.1.1.1.1.1.2) (ha.e _ _ _ _ q h.1.1.1.1.1.2) (hb.e _ _ _ _ q h.1.1.1.1.2) h.1.1.1.2 h.1.1.2 h.1.2 (by simpa using h.2), rfl⟩
  · cases h

theorem bf_ok {c : Cc} {X : Cx} {W : WX} (f : Bf) (q : Ctx V C G P w K mg base k c X W) (hc : (c.calm || (match f with | .len => true | .isi => true | .int => true | .abs => true | .tuple => true | .list => true | _ => false)) = true) :
    ∃ r, CallOk X G r (bfS V f) ∧ ((∃ id, CallR X (.builtin id) r ∧ bootBuiltins f.nm = some (.builtin id)) ∨ ∃ T, CallR X (.type T) r ∧ bootBuiltins f.nm = some (.type T)) := by
  cases f with
  | len => exact ⟨_, len_ok, .inl ⟨_, call_lenM, by decide +kernel⟩⟩
  | isi => exact ⟨_, isi_ok q.exn, .inl ⟨_, call_isM, by decide +kernel⟩⟩
  | int => exact ⟨_, int_ok, .inr ⟨_, call_int1, by decide +kernel⟩⟩
  | abs => exact ⟨_, abs_ok, .inl ⟨_, call_abs, by decide +kernel⟩⟩
  | max2 => exact ⟨_, max2_ok, .inl ⟨_, call_max2 (q.calm (by simpa using hc)), by decide +kernel⟩⟩
  | min2 => exact ⟨_, min2_ok, .inl ⟨_, call_min2 (q.calm (by simpa using hc)), by decide +kernel⟩⟩
  | tuple => exact ⟨_, tuple_ok, .inr ⟨_, call_tuple_of, by decide +kernel⟩⟩
  | list => exact ⟨_, list_ok, .inr ⟨_, call_list_of, by decide +kernel⟩⟩
  | sum => exact ⟨_, sum_ok, .inl ⟨_, cr_sum (q.calm (by simpa using hc)), by decide +kernel⟩⟩
  | all => exact ⟨_, all_ok, .inl ⟨_, cr_all (q.calm (by simpa using hc)), by decide +kernel⟩⟩
  | any => exact ⟨_, any_ok, .inl ⟨_, cr_any (q.calm (by simpa using hc)), by decide +kernel⟩⟩

theorem snd_callB (M : Md V C G P w K mg base k) (f : Bf) (a : T) (ha : Snd V C G P w K mg base k a) : Snd V C G P w K mg base k (.callB f a) := by
  refine .ofE rfl rfl rfl (fun c X W e q h => ?_) (fun _ _ => rfl) (fun _ _ => rfl) (fun _ _ => rfl) (fun _ _ => rfl) (fun _ _ => rfl) (fun _ _ _ => rfl) (fun _ _ => rfl) (fun _ _ => rfl)
  simp only [ck] at h
  split at h
  · rename_i x p y r p2
    try simp only [Bool.and_eq_true, beq_iff_eq] at h
    exact ⟨(by
      obtain ⟨⟨⟨h1, h2⟩, h3⟩, h4⟩ := h
      obtain ⟨g1, g2, g3, g4⟩ := abs_ok' M q h2
      obtain ⟨r, ok, ru⟩ := bf_ok f q h4
      rw [h1] at ru
      rcases ru with ⟨id, cr, hv⟩ | ⟨T, cr, hv⟩
      · exact ee_callB cr ok g1 g4 hv (ha.a _ _ _ _ q h3).1 (ha.a _ _ _ _ q h3).2 g3 g2
      · exact ee_callTy cr ok g1 g4 hv (ha.a _ _ _ _ q h3).1 (ha.a _ _ _ _ q h3).2 g3 g2), rfl⟩
  · cases h

theorem snd_call (M : Md V C G P w K mg base k) (f : Nat) (a : T) (ha : Snd V C G P w K mg base k a) : Snd V C G P w K mg base k (.call f a) := by
  refine .ofE rfl rfl rfl (fun c X W e q h => ?_) (fun _ _ => rfl) (fun _ _ => rfl) (fun _ _ => rfl) (fun _ _ => rfl) (fun _ _ => rfl) (fun _ _ _ => rfl) (fun _ _ => rfl) (fun _ _ => rfl)
  simp only [ck] at h
  split at h
  · rename_i x p y r p2
    try simp only [Bool.and_eq_true, beq_iff_eq] at h
    exact ⟨(by
      split at h
      · rename_i n j e1
        simp only [Bool.and_eq_true, beq_iff_eq] at h
        obtain ⟨⟨⟨h1, h2⟩, h3⟩, h4⟩ := h
        subst h1
        obtain ⟨g1, g2, g3⟩ := gl_ok q h2
        obtain ⟨fa, fd, ps, F, ar, m, kp, b⟩ := M.fns f _ j e1
        rw [← q.prog, ← q.w, ← q.K, ← q.mg, ← q.base] at F
        exact ee_call F ar (q.room h4) g1 (by rw [q.mg]; exact m) (by rw [q.K]; exact kp) (by rw [q.K]; exact b) (q.takes h4) (ha.a _ _ _ _ q h3).1 (ha.a _ _ _ _ q h3).2 g2
      · cases h), rfl⟩
  · cases h

theorem noA_ok {X : Cx} {r : L2.V → List L2.V → Hp → VK → Prop} {g : Sto → U → List U → Out U} (h : MethOk X G "list" (fun v vs H Q => r v [] H Q) g) : MethOk X G "list" r (noA g) := by
  intro W σ F μ S H v vs u us Q R ru rs hh
  cases rs with
  | nil => exact h W σ F μ S H v [] u [] Q R ru .nil hh
  | cons _ _ => exact hh.elim
theorem mt_ok {c : Cc} {X : Cx} {W : WX} (m : Mt) (q : Ctx V C G P w K mg base k c X W) : ∃ r id, MethOk X G "list" r (mtS m) ∧ MtR X id r ∧ Slot "list" m.nm id ∧ typeOf (.builtin id) = pure (.type "method_descriptor") := by
  cases m with
  | append => exact ⟨_, _, append_ok, mt_append, PySem.F.slot_list_append, PySem.F.type_list_append⟩
  | extend => exact ⟨_, _, extend_ok, mt_extend, PySem.F.slot_list_extend, PySem.F.type_list_extend⟩
  | reverse => exact ⟨_, _, noA_ok reverse_ok, mt_reverse, PySem.F.slot_list_reverse, PySem.F.type_list_reverse⟩
  | pop => exact ⟨_, _, noA_ok pop_ok, mt_pop, PySem.F.slot_list_pop, PySem.F.type_list_pop⟩
  | popAt => exact ⟨_, _, popAt_ok, mt_popAt, PySem.F.slot_list_pop, PySem.F.type_list_pop⟩
  | count => exact ⟨_, _, count_ok, mt_lcount, PySem.F.slot_list_count, PySem.F.type_list_count⟩
  | countB => exact ⟨_, _, countB_ok, mt_countF, PySem.F.slot_list_count, PySem.F.type_list_count⟩
  | indexB => exact ⟨_, _, indexB_ok, mt_index, PySem.F.slot_list_index, PySem.F.type_list_index⟩

theorem snd_meth (m : Mt) (o a : T) (ho : Snd V C G P w K mg base k o) (ha : Snd V C G P w K mg base k a) : Snd V C G P w K mg base k (.meth m o a) := by
  refine .ofE rfl rfl rfl (fun c X W e q h => ?_) (fun _ _ => rfl) (fun _ _ => rfl) (fun _ _ => rfl) (fun _ _ => rfl) (fun _ _ => rfl) (fun _ _ _ => rfl) (fun _ _ => rfl) (fun _ _ => rfl)
  simp only [ck] at h
  split at h
  · rename_i z nm ap xs cp
    try simp only [Bool.and_eq_true, beq_iff_eq] at h
    exact ⟨(by
      obtain ⟨⟨⟨⟨h1, h2⟩, h3⟩, h4⟩, h5⟩ := h
      obtain ⟨r, id, ok, mr, sl, ty⟩ := mt_ok m q
      rw [h1] at sl
      cases m <;> first
        | (obtain rfl : xs = [] := by simpa using h5
           exact ee_meth0 PySem.F.plainAttrs_list sl ty mr ok (ho.e _ _ _ _ q h2) h3 (by simpa using h4))
        | (cases xs with
           | nil => simp at h5
           | cons y ys =>
             simp only [Bool.and_eq_true, decide_eq_true_eq] at h5
             exact ee_meth PySem.F.plainAttrs_list sl ty mr ok (ho.e _ _ _ _ q h2) (ha.a _ _ _ _ q h5.1.2).1 h3 (ha.a _ _ _ _ q h5.1.2).2 h5.2 (by simpa using h4))), rfl⟩
  · cases h

end
end Pq

namespace Pq
open PySem PySem.Spec PyProof.Rows L2 L2H
section
variable {V : Gv} {C : Gc} {G : Tab} {P : Program} {w : World} {K : PySem.W.Frag} {mg : Str → Option Value} {base : Heap} {k : Nat}

theorem ee_dnin {X : Cx} {W : WX} {a b : Expr} {pos : Pos} {fa fb : SemE} (hu : X.A.units + 1 < cLine) (ha : EE X G W a fa) (hb : EE X G W b fb) (hs : setless b = true) : EE X G W (.Compare a [.NotIn] [b] pos) (fun ρ S => (fa ρ S).bind fun x S1 => (fb ρ S1).bind fun y S2 => dinS (!·) S2 x y) := by
  obtain ⟨ta, pa, qa⟩ := ha.ex
  obtain ⟨tb, pb, qb⟩ := hb.ex
  refine ⟨_, pe_cmp (pc_dnotin hu pa pb) (behind_c hs _), fun σ H ρ S F μ Q R E h => ?_⟩
  refine qa σ H ρ S F μ _ R E (h.bind fun x S1 v F1 μ1 H1 zq1 e1 R1 r1 h1 => ?_)
  refine qb σ H1 ρ S1 F1 μ1 _ R1 (E.mono e1) (h1.bind fun y S2 w F2 μ2 H2 zq2 e2 R2 r2 h2 => ?_)
  have r1 := r1.mono e2
  unfold dinS at h2
  cases q1 : kvsOf S2 y with
  | none => rw [q1] at h2; exact h2.elim
  | some kvs =>
    rw [q1] at h2
    cases x with
    | r _ => exact h2.elim
    | d z =>
      cases q2 : keyOf z with
      | none => simp only [q2] at h2; exact h2.elim
      | some k =>
        simp only [q2] at h2
        obtain ⟨p, kws, rfl, hp, hk⟩ := kvsOf_is R2 r2 q1
        obtain ⟨rfl, _⟩ := keyOf_is r1 q2
        refine ⟨p, _, rfl, dget_of hp k, ?_⟩
        rw [look_some hk]
        exact h2.now R2 (.bl _)

theorem et_din {X : Cx} {W : WX} {a b : Expr} {pos : Pos} {fa fb : SemE} (hu : X.A.units + 1 < cLine) (ha : EE X G W a fa) (hb : EE X G W b fb) (hs : setless b = true) : ET X G W (.Compare a [.In] [b] pos) (fun ρ S => (fa ρ S).bind fun x S1 => (fb ρ S1).bind fun y S2 => outB (dinQ _root_.id S2 x y) S2) := by
  obtain ⟨ta, pa, qa⟩ := ha.ex
  obtain ⟨tb, pb, qb⟩ := hb.ex
  refine ⟨_, pt_cmp (pc_din hu pa pb) (behind_c hs _), fun σ H ρ S F μ Q R E h => ?_⟩
  refine qa σ H ρ S F μ _ R E (h.bind fun x S1 v F1 μ1 H1 zq1 e1 R1 r1 h1 => ?_)
  refine qb σ H1 ρ S1 F1 μ1 _ R1 (E.mono e1) (h1.bind fun y S2 w F2 μ2 H2 zq2 e2 R2 r2 h2 => ?_)
  have r1 := r1.mono e2
  unfold dinQ at h2
  cases q1 : kvsOf S2 y with
  | none => rw [q1] at h2; exact h2.elim
  | some kvs =>
    rw [q1] at h2
    cases x with
    | r _ => exact h2.elim
    | d z =>
      cases q2 : keyOf z with
      | none => simp only [q2] at h2; exact h2.elim
      | some k =>
        simp only [q2] at h2
        obtain ⟨p, kws, rfl, hp, hk⟩ := kvsOf_is R2 r2 q1
        obtain ⟨rfl, _⟩ := keyOf_is r1 q2
        refine ⟨p, _, rfl, dget_of hp k, ?_⟩
        exact ⟨_, rfl, by rw [look_some hk]; exact h2.now R2 rfl⟩

theorem et_dnin {X : Cx} {W : WX} {a b : Expr} {pos : Pos} {fa fb : SemE} (hu : X.A.units + 1 < cLine) (ha : EE X G W a fa) (hb : EE X G W b fb) (hs : setless b = true) : ET X G W (.Compare a [.NotIn] [b] pos) (fun ρ S => (fa ρ S).bind fun x S1 => (fb ρ S1).bind fun y S2 => outB (dinQ (!·) S2 x y) S2) := by
  obtain ⟨ta, pa, qa⟩ := ha.ex
  obtain ⟨tb, pb, qb⟩ := hb.ex
  refine ⟨_, pt_cmp (pc_dnotin hu pa pb) (behind_c hs _), fun σ H ρ S F μ Q R E h => ?_⟩
  refine qa σ H ρ S F μ _ R E (h.bind fun x S1 v F1 μ1 H1 zq1 e1 R1 r1 h1 => ?_)
  refine qb σ H1 ρ S1 F1 μ1 _ R1 (E.mono e1) (h1.bind fun y S2 w F2 μ2 H2 zq2 e2 R2 r2 h2 => ?_)
  have r1 := r1.mono e2
  unfold dinQ at h2
  cases q1 : kvsOf S2 y with
  | none => rw [q1] at h2; exact h2.elim
  | some kvs =>
    rw [q1] at h2
    cases x with
    | r _ => exact h2.elim
    | d z =>
      cases q2 : keyOf z with
      | none => simp only [q2] at h2; exact h2.elim
      | some k =>
        simp only [q2] at h2
        obtain ⟨p, kws, rfl, hp, hk⟩ := kvsOf_is R2 r2 q1
        obtain ⟨rfl, _⟩ := keyOf_is r1 q2
        refine ⟨p, _, rfl, dget_of hp k, ?_⟩
        exact ⟨_, rfl, by rw [look_some hk]; exact h2.now R2 rfl⟩

theorem snd_bad  : Snd V C G P w K mg base k (.bad) where
  e := fun c X W e q h => ⟨fun _ _ _ => False, ⟨fun _ _ _ _ _ _ h => h.elim⟩, fun σ H ρ S F μ Q R E q => q⟩
  t := fun c X W e q h => et_bad
  s := fun c X W n e q h => ⟨fun _ _ _ => False, ⟨fun _ _ _ _ _ _ h => h.elim⟩, fun σ H ρ S F μ D R E hn q => q⟩

theorem snd_cmp (op : CmpOp) (a b : T) (ha : Snd V C G P w K mg base k a) (hb : Snd V C G P w K mg base k b) : Snd V C G P w K mg base k (.cmp op a b) where
  e := by
   intro c X W e q h
   simp only [ck] at h
   split at h
   · rename_i x o y p
     try simp only [Bool.and_eq_true, beq_iff_eq] at h
     exact (by obtain ⟨⟨⟨⟨h1, h2⟩, h3⟩, h4⟩, h5⟩ := h; subst h1; obtain ⟨r, o, g⟩ := cmp_rule q.hu _ h2; exact ee_cmp o g (ha.e _ _ _ _ q h3) (hb.e _ _ _ _ q h4) h5)
   · cases h
  t := by
   intro c X W e q h
   simp only [ck] at h
   split at h
   · rename_i x o y p
     try simp only [Bool.and_eq_true, beq_iff_eq] at h
     exact (by obtain ⟨⟨⟨⟨h1, h2⟩, h3⟩, h4⟩, h5⟩ := h; subst h1; obtain ⟨r, o, g⟩ := cmp_rule q.hu _ h2; exact et_cmp o g (ha.e _ _ _ _ q h3) (hb.e _ _ _ _ q h4) h5)
   · cases h

theorem snd_cmp3 (op op' : CmpOp) (a b d : T) (ha : Snd V C G P w K mg base k a) (hb : Snd V C G P w K mg base k b) (hd : Snd V C G P w K mg base k d) : Snd V C G P w K mg base k (.cmp3 op op' a b d) where
  e := by
   intro c X W e q h
   simp only [ck] at h
   split at h
   · rename_i x o o' y z p
     try simp only [Bool.and_eq_true, beq_iff_eq] at h
     exact (by obtain ⟨⟨⟨⟨⟨⟨⟨h1, h2⟩, h1'⟩, h2'⟩, h3⟩, h4⟩, h4'⟩, h5⟩ := h; subst h1; subst h1'; obtain ⟨r, o, g⟩ := cmp_rule q.hu _ h2; obtain ⟨r', o', g'⟩ := cmp_rule q.hu _ h2'; exact ee_cmp3 o o' g g' (ha.e _ _ _ _ q h3) (hb.e _ _ _ _ q h4) (hd.e _ _ _ _ q h4') h5)
   · cases h
  t := by
   intro c X W e q h
   simp only [ck] at h
   split at h
   · rename_i x o o' y z p
     try simp only [Bool.and_eq_true, beq_iff_eq] at h
     exact (by obtain ⟨⟨⟨⟨⟨⟨⟨h1, h2⟩, h1'⟩, h2'⟩, h3⟩, h4⟩, h4'⟩, h5⟩ := h; subst h1; subst h1'; obtain ⟨r, o, g⟩ := cmp_rule q.hu _ h2; obtain ⟨r', o', g'⟩ := cmp_rule q.hu _ h2'; exact et_cmp3 o o' g g' (ha.e _ _ _ _ q h3) (hb.e _ _ _ _ q h4) (hd.e _ _ _ _ q h4') h5)
   · cases h

theorem snd_and1 (a : T) (ha : Snd V C G P w K mg base k a) : Snd V C G P w K mg base k (.and1 a) where
  e := by
   intro c X W e q h
   simp only [ck] at h
   split at h
   · rename_i x p
     try simp only [Bool.and_eq_true, beq_iff_eq] at h
     exact ee_one (ha.e _ _ _ _ q h)
   · cases h
  t := by
   intro c X W e q h
   simp only [ck] at h
   split at h
   · rename_i x p
     try simp only [Bool.and_eq_true, beq_iff_eq] at h
     exact (ew_and1 (ha.t _ _ _ _ q h)).et
   · cases h
  wh := by
   intro _ c X W e q h
   simp only [ck] at h
   split at h
   · rename_i x p
     try simp only [Bool.and_eq_true, beq_iff_eq] at h
     exact ew_and1 (ha.t _ _ _ _ q h)
   · cases h

theorem snd_and2 (a b : T) (ha : Snd V C G P w K mg base k a) (hb : Snd V C G P w K mg base k b) : Snd V C G P w K mg base k (.and2 a b) where
  e := by
   intro c X W e q h
   simp only [ck] at h
   split at h
   · rename_i x y r p
     try simp only [Bool.and_eq_true, beq_iff_eq] at h
     exact ee_and (ha.e _ _ _ _ q h.1.2) (hb.e _ _ _ _ q h.2)
   · cases h
  t := by
   intro c X W e q h
   simp only [ck] at h
   split at h
   · rename_i x y r p
     try simp only [Bool.and_eq_true, beq_iff_eq] at h
     exact (ew_and (ha.t _ _ _ _ q h.1.2) (hb.wh h.1.1 _ _ _ _ q h.2)).et
   · cases h
  wh := by
   intro _ c X W e q h
   simp only [ck] at h
   split at h
   · rename_i x y r p
     try simp only [Bool.and_eq_true, beq_iff_eq] at h
     exact ew_and (ha.t _ _ _ _ q h.1.2) (hb.wh h.1.1 _ _ _ _ q h.2)
   · cases h

theorem snd_or1 (a : T) (ha : Snd V C G P w K mg base k a) : Snd V C G P w K mg base k (.or1 a) where
  e := by
   intro c X W e q h
   simp only [ck] at h
   split at h
   · rename_i x p
     try simp only [Bool.and_eq_true, beq_iff_eq] at h
     exact ee_one (ha.e _ _ _ _ q h)
   · cases h
  t := by
   intro c X W e q h
   simp only [ck] at h
   split at h
   · rename_i x p
     try simp only [Bool.and_eq_true, beq_iff_eq] at h
     exact (ew_or1 (ha.t _ _ _ _ q h)).et
   · cases h
  wh := by
   intro _ c X W e q h
   simp only [ck] at h
   split at h
   · rename_i x p
     try simp only [Bool.and_eq_true, beq_iff_eq] at h
     exact ew_or1 (ha.t _ _ _ _ q h)
   · cases h

theorem snd_or2 (a b : T) (ha : Snd V C G P w K mg base k a) (hb : Snd V C G P w K mg base k b) : Snd V C G P w K mg base k (.or2 a b) where
  e := by
   intro c X W e q h
   simp only [ck] at h
   split at h
   · rename_i x y r p
     try simp only [Bool.and_eq_true, beq_iff_eq] at h
     exact ee_or (ha.e _ _ _ _ q h.1.2) (hb.e _ _ _ _ q h.2)
   · cases h
  t := by
   intro c X W e q h
   simp only [ck] at h
   split at h
   · rename_i x y r p
     try simp only [Bool.and_eq_true, beq_iff_eq] at h
     exact (ew_or (ha.t _ _ _ _ q h.1.2) (hb.wh h.1.1 _ _ _ _ q h.2)).et
   · cases h
  wh := by
   intro _ c X W e q h
   simp only [ck] at h
   split at h
   · rename_i x y r p
     try simp only [Bool.and_eq_true, beq_iff_eq] at h
     exact ew_or (ha.t _ _ _ _ q h.1.2) (hb.wh h.1.1 _ _ _ _ q h.2)
   · cases h

theorem snd_not (a : T) (ha : Snd V C G P w K mg base k a) : Snd V C G P w K mg base k (.not a) where
  e := by
   intro c X W e q h
   simp only [ck] at h
   split at h
   · rename_i x p
     try simp only [Bool.and_eq_true, beq_iff_eq] at h
     exact ee_not (ha.e _ _ _ _ q h)
   · cases h
  t := by
   intro c X W e q h
   simp only [ck] at h
   split at h
   · rename_i x p
     try simp only [Bool.and_eq_true, beq_iff_eq] at h
     exact et_not (ha.t _ _ _ _ q h)
   · cases h

theorem snd_ifx (d a b : T) (hd : Snd V C G P w K mg base k d) (ha : Snd V C G P w K mg base k a) (hb : Snd V C G P w K mg base k b) : Snd V C G P w K mg base k (.ifx d a b) where
  e := by
   intro c X W e q h
   simp only [ck] at h
   split at h
   · rename_i x y z p
     try simp only [Bool.and_eq_true, beq_iff_eq] at h
     exact ee_if (hd.t _ _ _ _ q h.1.1) (ha.e _ _ _ _ q h.1.2) (hb.e _ _ _ _ q h.2)
   · cases h
  t := fun c X W e q h => et_bad

theorem snd_din (neg : Bool) (a b : T) (ha : Snd V C G P w K mg base k a) (hb : Snd V C G P w K mg base k b) : Snd V C G P w K mg base k (.din neg a b) where
  e := by
   intro c X W e q h
   simp only [ck] at h
   split at h
   · rename_i x o y p
     try simp only [Bool.and_eq_true, beq_iff_eq] at h
     exact (by
      obtain ⟨⟨⟨h1, h2⟩, h3⟩, h4⟩ := h
      cases neg with
      | false => subst h1; exact ee_din (by have := q.hu; omega) (ha.e _ _ _ _ q h2) (hb.e _ _ _ _ q h3) h4
      | true => subst h1; exact ee_dnin (by have := q.hu; omega) (ha.e _ _ _ _ q h2) (hb.e _ _ _ _ q h3) h4)
   · cases h
  t := by
   intro c X W e q h
   simp only [ck] at h
   split at h
   · rename_i x o y p
     try simp only [Bool.and_eq_true, beq_iff_eq] at h
     exact (by
      obtain ⟨⟨⟨h1, h2⟩, h3⟩, h4⟩ := h
      cases neg with
      | false => subst h1; exact et_din (by have := q.hu; omega) (ha.e _ _ _ _ q h2) (hb.e _ _ _ _ q h3) h4
      | true => subst h1; exact et_dnin (by have := q.hu; omega) (ha.e _ _ _ _ q h2) (hb.e _ _ _ _ q h3) h4)
   · cases h

theorem snd_frz (a : T) (ha : Snd V C G P w K mg base k a) : Snd V C G P w K mg base k (.frz a) where
  e := fun c X W e q h => ee_frz (ha.e c X W e q h)
  t := fun c X W e q h => et_bad

end
end Pq

namespace Pq
open PySem PySem.Spec PyProof.Rows L2 L2H
section
variable {V : Gv} {C : Gc} {G : Tab} {P : Program} {w : World} {K : PySem.W.Frag} {mg : Str → Option Value} {base : Heap} {k : Nat}

theorem swp2 {a b : Expr} {x y : Str} {px py pt pt2 : Pos} {kt k2 : Nat} {env : PySem.Env} (hk : env.scope.kind = .function) (hx : env.scope.names.lookup x = some .local) (hy : env.scope.names.lookup y = some .local) (hl : (py.line == px.line) = true) (hxy : (x == y) = false)
    (sa : starless a = true) (sb : starless b = true) (hf : (foldedForSure 8 a && foldedForSure 8 b) = false) (hc : (constantsAlone 8 a && constantsAlone 8 b) = false) :
    swappedStores [.Tuple [.Name x px, .Name y py] kt pt] (.Tuple [a, b] k2 pt2) env = pure (some [x, y]) := by
  have hb : env.blockKind = .function := by unfold Env.blockKind; rw [hk]; rfl
  have hyx : (y == x) = false := by rw [beq_eq_false_iff_ne] at hxy ⊢; exact fun e => hxy e.symm
  have hl' : py.line = px.line := eq_of_beq hl
  unfold swappedStores
  simp [hb, Env.kindOf, hx, hy, hl', Expr.pos, List.eraseDups, List.eraseDupsBy, List.eraseDupsBy.loop, hxy, hyx, hf, hc]
  intro h
  rcases h with h | h
  · exfalso; revert h sa; clear hf hc; cases a <;> simp [starless]
  · exfalso; revert h sb; clear hf hc; cases b <;> simp [starless]
theorem swp3 {a b d : Expr} {x y z : Str} {px py pz pt pt2 : Pos} {kt k2 : Nat} {env : PySem.Env} (hk : env.scope.kind = .function) (hx : env.scope.names.lookup x = some .local) (hy : env.scope.names.lookup y = some .local) (hz : env.scope.names.lookup z = some .local)
    (hl : (py.line == px.line) = true) (hl2 : (pz.line == px.line) = true) (hxy : (x == y) = false) (hxz : (x == z) = false) (hyz : (y == z) = false)
    (sa : starless a = true) (sb : starless b = true) (sd : starless d = true) (hf : (foldedForSure 8 a && (foldedForSure 8 b && foldedForSure 8 d)) = false) (hc : (constantsAlone 8 a && (constantsAlone 8 b && constantsAlone 8 d)) = false) :
    swappedStores [.Tuple [.Name x px, .Name y py, .Name z pz] kt pt] (.Tuple [a, b, d] k2 pt2) env = pure (some [x, y, z]) := by
  have hb : env.blockKind = .function := by unfold Env.blockKind; rw [hk]; rfl
  have hyx : (y == x) = false := by rw [beq_eq_false_iff_ne] at hxy ⊢; exact fun e => hxy e.symm
  have hzx : (z == x) = false := by rw [beq_eq_false_iff_ne] at hxz ⊢; exact fun e => hxz e.symm
  have hzy : (z == y) = false := by rw [beq_eq_false_iff_ne] at hyz ⊢; exact fun e => hyz e.symm
  have hl' : py.line = px.line := eq_of_beq hl
  have hl2' : pz.line = px.line := eq_of_beq hl2
  unfold swappedStores
  simp [hb, Env.kindOf, hx, hy, hz, hl', hl2', Expr.pos, List.eraseDups, List.eraseDupsBy, List.eraseDupsBy.loop, hxy, hyx, hxz, hzx, hyz, hzy, hf, hc]
  intro h
  rcases h with h | h | h
  · exfalso; revert h sa; clear hf hc; cases a <;> simp [starless]
  · exfalso; revert h sb; clear hf hc; cases b <;> simp [starless]
  · exfalso; revert h sd; clear hf hc; cases d <;> simp [starless]

theorem snd_nil  : Snd V C G P w K mg base k (.nil) where
  a := by
   intro c X W es q h
   obtain rfl : es = [] := by simpa [ck] using h
   exact ⟨ea_nil, rfl⟩
  o := by
   intro c X W es q h
   obtain rfl : es = none := by simpa [ck] using h
   exact .none
  f := by
   intro c X sc es q h
   obtain rfl : es = [] := by simpa [ck] using h
   exact .none
  gs := by
   intro c X W es q h
   obtain rfl : es = [] := by simpa [ck] using h
   exact egs_nil
  b := by
   intro c X W n es q h
   obtain rfl : es = [] := by simpa [ck] using h
   exact sss_nil

theorem snd_cons (a b : T) (ha : Snd V C G P w K mg base k a) (hb : Snd V C G P w K mg base k b) : Snd V C G P w K mg base k (.cons a b) where
  a := by
   intro c X W es q h
   simp only [ck] at h
   split at h
   · rename_i e es
     try simp only [Bool.and_eq_true, beq_iff_eq] at h
     exact ⟨ea_cons (ha.e _ _ _ _ q h.1.1) h.1.2 (hb.a _ _ _ _ q h.2).1, by rw [List.all_cons, h.1.2, (hb.a _ _ _ _ q h.2).2]; rfl⟩
   · cases h
  o := by
   intro c X W es q h
   simp only [ck] at h
   split at h
   · rename_i e
     try simp only [Bool.and_eq_true, beq_iff_eq] at h
     exact .some (ha.e _ _ _ _ q h)
   · cases h
  f := by
   intro c X sc es q h
   simp only [ck] at h
   split at h
   · rename_i e
     try simp only [Bool.and_eq_true, beq_iff_eq] at h
     exact .some fun s H A cl fp => ha.t _ _ _ _ (q s H A cl fp) h
   · cases h
  gs := by
   intro c X W es q h
   simp only [ck] at h
   split at h
   · rename_i e es
     try simp only [Bool.and_eq_true, beq_iff_eq] at h
     exact egs_cons (ha.g _ _ _ _ q h.1.1) h.1.2 (hb.gs _ _ _ _ q h.2)
   · cases h
  b := by
   intro c X W n es q h
   simp only [ck] at h
   split at h
   · rename_i e es
     try simp only [Bool.and_eq_true, beq_iff_eq] at h
     exact sss_cons (ha.s _ _ _ _ _ q h.1) (hb.b _ _ _ _ _ q h.2)
   · cases h

theorem snd_gnm (i : Nat) : Snd V C G P w K mg base k (.gnm i) where
  g := by
   intro c X W e q h
   simp only [ck] at h
   split at h
   · rename_i x p
     try simp only [Bool.and_eq_true, beq_iff_eq] at h
     exact eg_name (by rw [q.N]; exact q.nodup) (by rw [q.N]; exact h.1) (loc_ok q h.2).1 (loc_ok q h.2).2
   · cases h

theorem snd_gtup (a : T) (ha : Snd V C G P w K mg base k a) : Snd V C G P w K mg base k (.gtup a) where
  g := by
   intro c X W e q h
   simp only [ck] at h
   split at h
   · rename_i es x1 p
     try simp only [Bool.and_eq_true, beq_iff_eq] at h
     exact (by obtain ⟨⟨⟨h1, h2⟩, h3⟩, h4⟩ := h; show EG X G _ (tupG (lenT a) _) _; rw [h4]; exact eg_tup (q.calm h1) (ha.gs _ _ _ _ q h2) h3)
   · cases h

theorem snd_iseq (a : T) (ha : Snd V C G P w K mg base k a) : Snd V C G P w K mg base k (.iseq a) where
  i := fun c X W g e q h => ei_seq (ha.e c X W e q h)

theorem snd_irange1 (M : Md V C G P w K mg base k) (a : T) (ha : Snd V C G P w K mg base k a) : Snd V C G P w K mg base k (.irange1 a) where
  i := by
   intro c X W g e q h
   simp only [ck] at h
   split at h
   · rename_i x p y p2
     try simp only [Bool.and_eq_true, beq_iff_eq] at h
     exact (by obtain ⟨⟨⟨h1, h2⟩, h3⟩, h4⟩ := h; subst h1; obtain ⟨g1, g2, g3, g4⟩ := abs_ok' M q h2; exact ei_range1 g1 g4 (ea_cons (ha.e _ _ _ _ q h3) h4 ea_nil) h4)
   · cases h

theorem snd_irange2 (M : Md V C G P w K mg base k) (a b : T) (ha : Snd V C G P w K mg base k a) (hb : Snd V C G P w K mg base k b) : Snd V C G P w K mg base k (.irange2 a b) where
  i := by
   intro c X W g e q h
   simp only [ck] at h
   split at h
   · rename_i x p y z p2
     try simp only [Bool.and_eq_true, beq_iff_eq] at h
     exact (by obtain ⟨⟨⟨⟨⟨h1, h2⟩, h3⟩, h4⟩, h5⟩, h6⟩ := h; subst h1; obtain ⟨g1, g2, g3, g4⟩ := abs_ok' M q h2; exact ei_range2 g1 g4 (ea_cons (ha.e _ _ _ _ q h3) h4 (ea_cons (hb.e _ _ _ _ q h5) h6 ea_nil)) h4 h6)
   · cases h

theorem snd_izip (M : Md V C G P w K mg base k) (a b : T) (ha : Snd V C G P w K mg base k a) (hb : Snd V C G P w K mg base k b) : Snd V C G P w K mg base k (.izip a b) where
  i := by
   intro c X W g e q h
   simp only [ck] at h
   split at h
   · rename_i x1 x2 x3 x p y z p2
     try simp only [Bool.and_eq_true, beq_iff_eq] at h
     exact (by obtain ⟨⟨⟨⟨⟨h1, h2⟩, h3⟩, h4⟩, h5⟩, h6⟩ := h; subst h1; obtain ⟨g1, g2, g3, g4⟩ := abs_ok' M q h2; exact ei_zip g1 g4 (ea_cons (ha.e _ _ _ _ q h3) h4 (ea_cons (hb.e _ _ _ _ q h5) h6 ea_nil)) h4 h6)
   · cases h

theorem snd_pass  : Snd V C G P w K mg base k (.pass) where
  s := by
   intro c X W n e q h
   simp only [ck] at h
   split at h
   · rename_i p
     try simp only [Bool.and_eq_true, beq_iff_eq] at h
     exact ss_pass
   · cases h

theorem snd_brk  : Snd V C G P w K mg base k (.brk) where
  s := by
   intro c X W n e q h
   simp only [ck] at h
   split at h
   · rename_i p
     try simp only [Bool.and_eq_true, beq_iff_eq] at h
     exact ss_break
   · cases h

theorem snd_cont  : Snd V C G P w K mg base k (.cont) where
  s := by
   intro c X W n e q h
   simp only [ck] at h
   split at h
   · rename_i p
     try simp only [Bool.and_eq_true, beq_iff_eq] at h
     exact ss_cont
   · cases h

theorem snd_ret (a : T) (ha : Snd V C G P w K mg base k a) : Snd V C G P w K mg base k (.ret a) where
  s := by
   intro c X W n e q h
   simp only [ck] at h
   split at h
   · rename_i e p
     try simp only [Bool.and_eq_true, beq_iff_eq] at h
     exact ss_ret (ha.e _ _ _ _ q h)
   · cases h

theorem snd_set (i : Nat) (a : T) (ha : Snd V C G P w K mg base k a) : Snd V C G P w K mg base k (.set i a) where
  s := by
   intro c X W n e q h
   simp only [ck] at h
   split at h
   · rename_i x p e p2
     try simp only [Bool.and_eq_true, beq_iff_eq] at h
     exact ss_set (by rw [q.N]; exact q.nodup) (by rw [q.N]; exact h.1.1.1) (loc_ok q h.1.1.2).1 (loc_ok q h.1.1.2).2 h.1.2 (ha.e _ _ _ _ q h.2)
   · cases h

theorem snd_asg (g a : T) (hg : Snd V C G P w K mg base k g) (ha : Snd V C G P w K mg base k a) : Snd V C G P w K mg base k (.asg g a) where
  s := by
   intro c X W n e q h
   simp only [ck] at h
   split at h
   · rename_i g e p
     try simp only [Bool.and_eq_true, beq_iff_eq] at h
     exact ss_asg (ha.e _ _ _ _ q h.2) (hg.g _ _ _ _ q h.1.1.1.1) h.1.1.2 h.1.2 h.1.1.1.2
   · cases h

theorem snd_drop (a : T) (ha : Snd V C G P w K mg base k a) : Snd V C G P w K mg base k (.drop a) where
  s := by
   intro c X W n e q h
   simp only [ck] at h
   split at h
   · rename_i e p
     try simp only [Bool.and_eq_true, beq_iff_eq] at h
     exact ss_expr h.1 (ha.e _ _ _ _ q h.2)
   · cases h

theorem snd_ite (d a b : T) (hd : Snd V C G P w K mg base k d) (ha : Snd V C G P w K mg base k a) (hb : Snd V C G P w K mg base k b) : Snd V C G P w K mg base k (.ite d a b) where
  s := by
   intro c X W n e q h
   simp only [ck] at h
   split at h
   · rename_i x y z p
     try simp only [Bool.and_eq_true, beq_iff_eq] at h
     exact ss_if (hd.t _ _ _ _ q h.1.1) (ha.b _ _ _ _ _ q h.1.2) (hb.b _ _ _ _ _ q h.2)
   · cases h

theorem snd_for_ (i g b : T) (hi : Snd V C G P w K mg base k i) (hg : Snd V C G P w K mg base k g) (hb : Snd V C G P w K mg base k b) : Snd V C G P w K mg base k (.for_ i g b) where
  s := by
   intro c X W n e q h
   simp only [ck] at h
   split at h
   · rename_i x y z p
     try simp only [Bool.and_eq_true, beq_iff_eq] at h
     exact ss_for (q.own h.1.1.1.1.2) (q.calm h.1.1.1.1.1) (hi.i _ _ _ _ _ q h.1.1.1.2) (hg.g _ _ _ _ q h.1.1.2) (hb.b _ _ _ _ _ q h.1.2) h.2
   · cases h

theorem snd_while_ (d b : T) (hd : Snd V C G P w K mg base k d) (hb : Snd V C G P w K mg base k b) : Snd V C G P w K mg base k (.while_ d b) where
  s := by
   intro c X W n e q h
   simp only [ck] at h
   split at h
   · rename_i x y p
     try simp only [Bool.and_eq_true, beq_iff_eq] at h
     exact ss_while _ (q.own h.1.1) (hd.t _ _ _ _ q h.1.2) (hb.b _ _ _ _ _ q h.2)
   · cases h

theorem snd_setit (o i v : T) (ho : Snd V C G P w K mg base k o) (hi : Snd V C G P w K mg base k i) (hv : Snd V C G P w K mg base k v) : Snd V C G P w K mg base k (.setit o i v) where
  s := by
   intro c X W n e q h
   simp only [ck] at h
   split at h
   · rename_i x y p e p2
     try simp only [Bool.and_eq_true, beq_iff_eq] at h
     exact ss_setItem (by have := q.hu; omega) (ho.e _ _ _ _ q h.1.1.1.1.1) (hi.e _ _ _ _ q h.1.1.1.1.2) (hv.e _ _ _ _ q h.1.1.1.2) h.1.1.2 h.1.2 h.2
   · cases h

theorem snd_gc (ks : List Nat) (a : T) (ha : Snd V C G P w K mg base k a) : Snd V C G P w K mg base k (.gc ks a) where
  s := fun c X W n e q h => ss_gc ks (ha.s c X W n e q h)

theorem snd_raise (M : Md V C G P w K mg base k) (i : Nat) : Snd V C G P w K mg base k (.raise i) where
  s := by
   intro c X W n e q h
   simp only [ck] at h
   split at h
   · rename_i x p p2 p3
     try simp only [Bool.and_eq_true, beq_iff_eq] at h
     exact (by
      obtain ⟨⟨⟨h1, h1'⟩, h2⟩, h3⟩ := h
      obtain ⟨g1, g2, g3⟩ := gl_ok q h3
      obtain ⟨B, ni, ii, bm, F, ex, sb, ty⟩ := M.rais i x h1' h2
      obtain ⟨c1, c2⟩ := M.clss i x h2
      exact ss_raise rfl F (by rw [q.K]; exact ex) (by rw [q.mg]; exact c1) (by rw [q.K]; exact c2) (raises_own (by rw [q.K]; exact sb) (by rw [q.K]; exact ty)) g1 g2 (q.calm h1) (q.takes h1))
   · cases h

theorem snd_forz (M : Md V C G P w K mg base k) (a b g d : T) (ha : Snd V C G P w K mg base k a) (hb : Snd V C G P w K mg base k b) (hg : Snd V C G P w K mg base k g) (hd : Snd V C G P w K mg base k d) : Snd V C G P w K mg base k (.forz a b g d) where
  s := by
   intro c X W n e q h
   simp only [ck] at h
   split at h
   · rename_i es x1 p x p2 y z p3 bd p4
     try simp only [Bool.and_eq_true, beq_iff_eq] at h
     exact (by
      obtain ⟨⟨⟨⟨⟨⟨⟨⟨⟨h1, h2⟩, h3⟩, h4⟩, h5⟩, h6⟩, h7⟩, h8⟩, h9⟩, h10⟩ := h
      subst h3
      obtain ⟨g1, g2, g3, g4⟩ := abs_ok' M q h4
      exact ss_forZ (q.own h2) (q.calm h1) g1 g4 (ea_cons (ha.e _ _ _ _ q h5) h6 (ea_cons (hb.e _ _ _ _ q h7) h8 ea_nil)) h6 h8 (hg.g _ _ _ _ q h9) (hd.b _ _ _ _ _ q h10))
   · cases h

theorem snd_par2 (i j : Nat) (a b : T) (ha : Snd V C G P w K mg base k a) (hb : Snd V C G P w K mg base k b) : Snd V C G P w K mg base k (.par2 i j a b) where
  s := by
   intro c X W n e q h
   simp only [ck] at h
   split at h
   · rename_i x px y py x1 p1 d e x2 p2 p3
     try simp only [Bool.and_eq_true, beq_iff_eq] at h
     exact (by
      obtain ⟨⟨⟨⟨⟨⟨h1, h2⟩, h3⟩, h4⟩, h5⟩, h6⟩, h7⟩ := h
      unfold swB at h5
      simp only [Bool.and_eq_true, Bool.not_eq_true'] at h5
      obtain ⟨⟨⟨⟨⟨⟨⟨⟨s1, s2⟩, s3⟩, s4⟩, s5⟩, s6⟩, s7⟩, s8⟩, s9⟩ := h5
      have k1 := kindIs_iff s1; have k2 := kindIs_iff s2
      rw [← q.sc] at k1 k2 s9
      exact ss_par2 (q.calm h1) (by rw [q.N]; exact q.nodup) (by rw [q.N]; exact h2) (by rw [q.N]; exact h3) (by simpa using h4) k1 k2 (ea_cons (ha.e _ _ _ _ q h6) s5 (ea_cons (hb.e _ _ _ _ q h7) s6 ea_nil))
        (swp2 (eq_of_beq s9) k1 k2 s3 s4 s5 s6 s7 s8))
   · cases h

theorem snd_par3 (i j l : Nat) (a b d : T) (ha : Snd V C G P w K mg base k a) (hb : Snd V C G P w K mg base k b) (hd : Snd V C G P w K mg base k d) : Snd V C G P w K mg base k (.par3 i j l a b d) where
  s := by
   intro c X W n e q h
   simp only [ck] at h
   split at h
   · rename_i x px y py z pz x1 p1 e1 e2 e3 x2 p2 p3
     try simp only [Bool.and_eq_true, beq_iff_eq] at h
     exact (by
      obtain ⟨⟨⟨⟨⟨⟨⟨⟨⟨⟨h1, h2⟩, h3⟩, h3'⟩, h4⟩, h4'⟩, h4''⟩, h5⟩, h6⟩, h7⟩, h8⟩ := h
      unfold swB3 at h5
      simp only [Bool.and_eq_true, Bool.not_eq_true'] at h5
      obtain ⟨⟨⟨⟨⟨⟨⟨⟨⟨⟨⟨⟨⟨s1, s2⟩, s2'⟩, s3⟩, s3'⟩, s4⟩, s4'⟩, s4''⟩, s5⟩, s6⟩, s6'⟩, s7⟩, s8⟩, s9⟩ := h5
      have k1 := kindIs_iff s1; have k2 := kindIs_iff s2; have k3 := kindIs_iff s2'
      rw [← q.sc] at k1 k2 k3 s9
      exact ss_par3 (q.calm h1) (by rw [q.N]; exact q.nodup) (by rw [q.N]; exact h2) (by rw [q.N]; exact h3) (by rw [q.N]; exact h3') (by simpa using h4) (by simpa using h4') (by simpa using h4'') k1 k2 k3
        (ea_cons (ha.e _ _ _ _ q h6) s5 (ea_cons (hb.e _ _ _ _ q h7) s6 (ea_cons (hd.e _ _ _ _ q h8) s6' ea_nil)))
        (swp3 (eq_of_beq s9) k1 k2 k3 s3 s3' s4 s4' s4'' s5 s6 s6' s7 s8))
   · cases h

theorem snd_comp (r : Bool) (own : List (Str × Nat)) (i g f a : T) (hi : Snd V C G P w K mg base k i) (hg : Snd V C G P w K mg base k g) (hf : Snd V C G P w K mg base k f) (ha : Snd V C G P w K mg base k a) : Snd V C G P w K mg base k (.comp r own i g f a) where
  e := by
   intro c X W e q h
   simp only [ck] at h
   split at h
   · rename_i x g1 i1 fs sc p
     try simp only [Bool.and_eq_true, beq_iff_eq] at h
     exact (by
      obtain ⟨⟨⟨⟨⟨h1, h2⟩, h3⟩, h4⟩, h5⟩, ⟨h6, h7⟩, h8⟩ := h
      have kk := fun (s : Shared) (H : Hp) (A : Addr) (cl : List (Str × Addr)) (fp : List Addr) => ctx_blk q h1 (sc := sc) s H A cl fp
      have both := ee_compB (pos := p) (W := W) (q.calm h1) (by rw [q.N]; exact q.nodup) (hi.i _ _ _ _ _ q h2) (own := own) (scope := sc) (by rw [q.N, q.sc]; exact blkOk_by h3) (fun s H A cl fp => hg.g _ _ _ _ (kk s H A cl fp) h6) (hf.f _ X sc fs kk h7) (fun s H A cl fp => ha.e _ _ _ _ (kk s H A cl fp) h8) (by simpa using h4) h5
      cases r with
      | true => exact both.2
      | false => exact both.1)
   · cases h
  t := fun c X W e q h => et_bad
  sc := by
   intro _ c X W n i x px e pp q h
   simp only [ck] at h
   split at h
   · rename_i x1 g1 i1 fs sc p
     try simp only [Bool.and_eq_true, beq_iff_eq] at h
     exact (by
      obtain ⟨⟨⟨⟨⟨h1, h2⟩, h3⟩, h4⟩, h5⟩, ⟨h6, h7⟩, h8⟩ := h
      have kk := fun (s : Shared) (H : Hp) (A : Addr) (cl : List (Str × Addr)) (fp : List Addr) => ctx_blk q h1 (sc := sc) s H A cl fp
      intro hN hy hsw
      have both := ss_setComp (n := n) (W := W) (q.calm h1) (by rw [q.N]; exact q.nodup) hN hy hsw (hi.i _ _ _ _ _ q h2) (own := own) (scope := sc) (by rw [q.N, q.sc]; exact blkOk_by h3) (fun s H A cl fp => hg.g _ _ _ _ (kk s H A cl fp) h6) (hf.f _ X sc fs kk h7) (fun s H A cl fp => ha.e _ _ _ _ (kk s H A cl fp) h8) (by simpa using h4) h5
      cases r with
      | true => exact both.2
      | false => exact both.1)
   · cases h

end
end Pq

namespace Pq
open PySem PySem.Spec PyProof.Rows L2 L2H
section
variable {V : Gv} {C : Gc} {G : Tab} {P : Program} {w : World} {K : PySem.W.Frag} {mg : Str → Option Value} {base : Heap} {k : Nat}
theorem snd_setc (i : Nat) (a : T) (ha : Snd V C G P w K mg base k a) : Snd V C G P w K mg base k (.setc i a) where
  s := by
    intro c X W n st q h
    simp only [ck] at h
    split at h
    · rename_i x px el g it fs sc p p2
      simp only [Bool.and_eq_true, beq_iff_eq, Bool.not_eq_true'] at h
      obtain ⟨⟨⟨⟨⟨⟨h1, h2⟩, h3⟩, h4⟩, h5⟩, h6⟩, h7⟩ := h
      have k1 := kindIs_iff h3
      rw [← q.sc] at k1 h4
      refine ha.sc h1 c X W n i x px _ p2 q h7 (by rw [q.N]; exact h2) k1 ?_
      show (pure (_ && _ && _ && _) : Sem Bool) = _
      have hb : X.env.blockKind = .function := by unfold Env.blockKind; rw [h4]; rfl
      rw [hb]
      simp [Env.kindOf, k1, Expr.pos, h5, h6]
    · cases h
theorem snd_tryk (M : Md V C G P w K mg base k) (i : Nat) (a : T) (ha : Snd V C G P w K mg base k a) : Snd V C G P w K mg base k (.tryk i a) where
  s := by
    intro c X W n st q h
    simp only [ck] at h
    split at h
    · rename_i e p1 x p2 nm kx p3 nm2 p4 p5 p6 p7 p8
      simp only [Bool.and_eq_true, beq_iff_eq] at h
      obtain ⟨⟨⟨⟨⟨⟨⟨⟨⟨⟨⟨h0, h1⟩, h2⟩, h3⟩, h4⟩, h5⟩, h6⟩, h7⟩, h8⟩, h9⟩, h10⟩, h11⟩ := h
      subst h5
      subst h8
      subst h10
      obtain ⟨fk, fd, ps, Cf, F, m1, kp, b, m2, ex⟩ := M.kind h0
      obtain ⟨g1, g2, g3⟩ := gl_ok q h9
      obtain ⟨l1, l2, l3⟩ := gl_ok q h11
      obtain ⟨n1, n2, n3⟩ := plainN_ok h7
      have k1 := kindIs_iff h6
      rw [← q.sc] at k1
      rw [← q.prog, ← q.w, ← q.K, ← q.mg, ← q.base] at F
      rw [← q.K] at kp b ex
      exact ss_tryk (q.stk h2).1 (q.stk h2).2 (by rw [q.N]; exact q.nodup) (by rw [q.N]; exact h4) k1 ⟨g1, g2, .inl (by rw [q.mg]; exact m2)⟩ (q.takes h1)
        (fun W' pn xe tk => ha.e _ _ _ _ (ctx_tr q h1 tk) h3) ex F (roomH_of (q.room h1)) l1 (by rw [q.mg]; exact m1) kp b l2 n1 n2
    · cases h
/-- what the words say is so -/
theorem snd (M : Md V C G P w K mg base k) : ∀ t : T, Snd V C G P w K mg base k t
  | .bad => snd_bad | .nm i => snd_nm i | .int i => snd_int i | .bl i => snd_bl i | .non => snd_non | .str i => snd_str i | .gint y i => snd_gint M y i | .tyN n => snd_tyN M n | .gcls n => snd_gcls M n
  | .bin op a b => snd_bin op a b (snd M a) (snd M b) | .neg a => snd_neg a (snd M a) | .cmp op a b => snd_cmp op a b (snd M a) (snd M b) | .cmp3 op o2 a b d => snd_cmp3 op o2 a b d (snd M a) (snd M b) (snd M d)
  | .and1 a => snd_and1 a (snd M a) | .and2 a b => snd_and2 a b (snd M a) (snd M b) | .or1 a => snd_or1 a (snd M a) | .or2 a b => snd_or2 a b (snd M a) (snd M b) | .not a => snd_not a (snd M a) | .ifx d a b => snd_ifx d a b (snd M d) (snd M a) (snd M b)
  | .tup a => snd_tup a (snd M a) | .lst a => snd_lst a (snd M a) | .new a => snd_new a (snd M a) | .dnew => snd_dnew | .d0 => snd_d0
  | .ix a b => snd_ix a b (snd M a) (snd M b) | .sl a l u => snd_sl a l u (snd M a) (snd M l) (snd M u) | .dget a b => snd_dget a b (snd M a) (snd M b) | .din n a b => snd_din n a b (snd M a) (snd M b) | .dget2 o a b => snd_dget2 o a b (snd M o) (snd M a) (snd M b)
  | .callB f a => snd_callB M f a (snd M a) | .call f a => snd_call M f a (snd M a) | .meth m o a => snd_meth m o a (snd M o) (snd M a)
  | .frz a => snd_frz a (snd M a) | .comp r own i g f a => snd_comp r own i g f a (snd M i) (snd M g) (snd M f) (snd M a)
  | .nil => snd_nil | .cons a b => snd_cons a b (snd M a) (snd M b)
  | .gnm i => snd_gnm i | .gtup a => snd_gtup a (snd M a)
  | .iseq a => snd_iseq a (snd M a) | .irange1 a => snd_irange1 M a (snd M a) | .irange2 a b => snd_irange2 M a b (snd M a) (snd M b) | .izip a b => snd_izip M a b (snd M a) (snd M b)
  | .pass => snd_pass | .brk => snd_brk | .cont => snd_cont | .ret a => snd_ret a (snd M a) | .set i a => snd_set i a (snd M a) | .setc i a => snd_setc i a (snd M a) | .asg g a => snd_asg g a (snd M g) (snd M a)
  | .par2 i j a b => snd_par2 i j a b (snd M a) (snd M b) | .par3 i j l a b d => snd_par3 i j l a b d (snd M a) (snd M b) (snd M d) | .drop a => snd_drop a (snd M a)
  | .ite d a b => snd_ite d a b (snd M d) (snd M a) (snd M b) | .for_ i g b => snd_for_ i g b (snd M i) (snd M g) (snd M b) | .forz a b g d => snd_forz M a b g d (snd M a) (snd M b) (snd M g) (snd M d) | .while_ d b => snd_while_ d b (snd M d) (snd M b)
  | .setit o i v => snd_setit o i v (snd M o) (snd M i) (snd M v) | .raise i => snd_raise M i | .gc ks a => snd_gc ks a (snd M a) | .tryk i a => snd_tryk M i a (snd M a)

/-- a def's words -/
structure Df where
  name : Str
  ar : Nat
  N : List Str
  body : T
def evCall (D : List Df) (sub : Nat → Nat → Bool) (res : Nat → Option Str) : Nat → Nat → SemF
  | 0, _ => fun _ _ => .bad
  | k + 1, f => match D[f]? with
    | some d => fnS d.ar d.N.length fun n => (ev ⟨evCall D sub res k, sub, res⟩ d.body).s n
    | none => fun _ _ => .bad
def ccOf (d : Df) (st : Stmt) : Cc := { N := d.N, sc := defScope st, calm := true, fnB := fun _ => true, body := true }
def ccHot (d : Df) (st : Stmt) : Cc := { N := d.N, sc := defScope st, calm := false, fnB := fun _ => true, body := false }
def coldC (C : Gc) : Gc := { C with fns := [], hot := false }
def V0 (sub : Nat → Nat → Bool) (res : Nat → Option Str) : Gv := ⟨fun _ _ _ => .bad, sub, res⟩
/-- what a law's head gives -/
structure Lw (D : List Df) (sub : Nat → Nat → Bool) (res : Nat → Option Str) (C : Gc) (G : Tab) (P : Program) (w : World) (K : PySem.W.Frag) (mg : Str → Option Value) (base : Heap) : Prop where
  none : ∀ x, C.none.contains x = true → mg x = none
  nums : ∀ x i, C.nums.contains (x, i) = true → ∃ t, mg x = some (.int i t)
  clss : ∀ (c : Nat) (x : Str), C.clss[c]? = some x → mg x = some (.ref (G.cls c)) ∧ PySem.W.keepIn K (.ref (G.cls c)) = true
  rais : ∀ (c : Nat) (x : Str), C.rais.contains c = true → C.clss[c]? = some x → ∃ (B newId initId : String) (bmB : List Value), ExcBaseFacts B newId initId bmB ∧ PySem.W.excIn K (G.cls c) bmB newId = true ∧ PySem.W.subIn K (.ref (G.cls c)) (.type "BaseException") = some true ∧ PySem.W.typeIn K (.ref (G.cls c)) = some (.type "type")
  fns : ∀ (f : Nat) (n : Str) (j : Nat), C.fns[f]? = some (n, j) → ∃ (d : Df) (st : Stmt) (qual : Str) (a : Addr) (fd : FuncData) (ps : List Str), D[f]? = some d ∧ d.ar = j ∧ ps.length = j ∧ Fun K n qual st a fd ∧ FnScope d.N ps (defScope st) ∧ (ck C d.body).b (ccOf d st) (defBody st) = true ∧ mg n = some (.ref a) ∧ Binds K fd ps []
  exn : ∀ a, G.exn a = .none
  kind : C.hot = true → ∃ (d : Df) (st : Stmt) (qual : Str) (a : Addr) (fd : FuncData) (ps : List Str) (Cf : Addr), Fun K C.kind qual st a fd ∧ FnScope d.N ps (defScope st) ∧ ps.length = 1 ∧ (ck (coldC C) d.body).b (ccHot d st) (defBody st) = true ∧ mg C.kind = some (.ref a) ∧ Binds K fd ps [] ∧ mg C.far = some (.ref Cf) ∧
    (∀ c r, res c = some r → ClsOk K G sub c) ∧ (∀ c r, res c = some r → PySem.W.exmOne K (.ref (G.cls c)) (.ref Cf) = some true) ∧
    ∀ c r, res c = some r → exitS 0 ((ev (V0 sub res) d.body).s 0 ([some (.d (.exn c))] ++ List.replicate (d.N.length - 1) .none) []) = .ok (.d (.str r)) []
section
variable {D : List Df} {sub : Nat → Nat → Bool} {res : Nat → Option Str} {C : Gc} {G : Tab} {P : Program} {w : World} {K : PySem.W.Frag} {mg : Str → Option Value} {base : Heap}
theorem Lw.kindP (L : Lw D sub res C G P w K mg base) (k : Nat) (h : C.hot = true) : ∃ fk fd ps Cf, FnP P w K mg base (L2.CX P w) (k + 1) fk fd ps (spKind K G res) ∧ mg C.kind = some (.ref fk) ∧ PySem.W.keepIn K (.ref fk) = true ∧ Binds K fd ps [] ∧ mg C.far = some (.ref Cf) ∧ ∀ c r, res c = some r → PySem.W.exmOne K (.ref (G.cls c)) (.ref Cf) = some true := by
  obtain ⟨d, st, qual, a, fd, ps, Cf, F, Sc, hps, hck, m1, b, m2, hcl, hex, hres⟩ := L.kind h
  refine ⟨a, fd, ps, Cf, ?_, m1, F.kp, b, m2, hex⟩
  refine kind_ok (body := fun n => (ev (V0 sub res) d.body).s n) F Sc hps hcl hres fun X G' W n hG hP hw hK hmg hbase hN hsc hfn hu hx => ?_
  have M : Md (V0 sub res) (coldC C) G' P w K mg base 0 :=
    { none := L.none, nums := L.nums, clss := by rw [hG]; exact L.clss, rais := by rw [hG]; exact L.rais
      fns := fun f n j h => by simp [coldC] at h
      kind := fun h => by simp [coldC] at h }
  exact (snd M d.body).b (ccHot d st) X W n (defBody st) { prog := hP, w := hw, K := hK, mg := hmg, base := hbase, N := hN, sc := hsc, nodup := Sc.nd, calm := fun h => absurd h Bool.false_ne_true, fnB := fun x _ => hfn x, hu := hu, exn := hx, noex := fun h => absurd h Bool.false_ne_true, room := fun h => absurd h Bool.false_ne_true, takes := fun h => absurd h Bool.false_ne_true, own := fun h => absurd h Bool.false_ne_true, stk := fun h => absurd h Bool.false_ne_true } hck
theorem evCall_ar (L : Lw D sub res C G P w K mg base) {f j : Nat} {n : Str} (h : C.fns[f]? = some (n, j)) (k : Nat) (S : Sto) (us : List U) (hl : us.length ≠ j) : evCall D sub res k f S us = .bad := by
  cases k with
  | zero => rfl
  | succ k =>
    obtain ⟨d, st, qual, a, fd, ps, e, rfl, _⟩ := L.fns f n j h
    show (match D[f]? with | some d => _ | .none => _ : SemF) S us = _
    rw [e]
    exact fnS_ar S us hl
/-- every def keeps its promise -/
theorem Lw.md (L : Lw D sub res C G P w K mg base) : ∀ k, Md ⟨evCall D sub res k, sub, res⟩ C G P w K mg base (k + 1)
  | 0 => { none := L.none, nums := L.nums, clss := L.clss, rais := L.rais, kind := L.kindP 0
           fns := fun f n j h => by
             obtain ⟨d, st, qual, a, fd, ps, e, e2, hps, F, Sc, hck, m, b⟩ := L.fns f n j h
             refine ⟨a, fd, ps, ⟨fun vs H Q E q => by rw [q.1, hps], fun A outer s H args us vs Q E hr he hb hv hs => ?_⟩, fun S us hl => rfl, m, F.kp, b⟩
             obtain ⟨_, F', μ, S, us', _, _, r⟩ := hs
             exact r.elim }
  | k + 1 => { none := L.none, nums := L.nums, clss := L.clss, rais := L.rais, kind := L.kindP (k + 1)
               fns := fun f n j h => by
                 obtain ⟨d, st, qual, a, fd, ps, e, e2, hps, F, Sc, hck, m, b⟩ := L.fns f n j h
                 refine ⟨a, fd, ps, ?_, evCall_ar L h (k + 1), m, F.kp, b⟩
                 have he : evCall D sub res (k + 1) f = fnS ps.length d.N.length fun n => (ev ⟨evCall D sub res k, sub, res⟩ d.body).s n := by
                   show (match D[f]? with | some d => _ | .none => _ : SemF) = _
                   rw [e, hps, ← e2]
                 rw [show (⟨evCall D sub res (k + 1), sub, res⟩ : Gv).call f = evCall D sub res (k + 1) f from rfl, he, ← hps]
                 refine fn_ok F Sc fun X W n hP hw hK hmg hbase hN hsc hcalm hfn hstk hfr hroom tk own => ?_
                 exact (snd (L.md k) d.body).b (ccOf d st) X W n (defBody st) { prog := hP, w := hw, K := hK, mg := hmg, base := hbase, N := hN, sc := hsc, nodup := Sc.nd, calm := fun _ => hcalm, fnB := fun x _ => hfn x, hu := hroom.units, exn := ⟨fun a c h => by rw [L.exn] at h; cases h⟩, noex := fun _ => L.exn, room := fun _ => hroom, takes := fun _ => tk, own := fun _ => own, stk := fun _ => ⟨hstk, hfr⟩ } hck }
/-- one def's promise, with its own data -/
theorem Lw.one (L : Lw D sub res C G P w K mg base) (k : Nat) {f : Nat} {d : Df} {n qual : Str} {st : Stmt} {a : Addr} {fd : FuncData} {ps : List Str} (e : D[f]? = some d) (F : Fun K n qual st a fd) (Sc : FnScope d.N ps (defScope st)) (e2 : d.ar = ps.length)
    (hck : (ck C d.body).b (ccOf d st) (defBody st) = true) : FnOk P w K mg base (L2.CX P w) (k + 2) a fd ps (spF K G ps.length (evCall D sub res (k + 1) f)) := by
  have he : evCall D sub res (k + 1) f = fnS ps.length d.N.length fun n => (ev ⟨evCall D sub res k, sub, res⟩ d.body).s n := by
    show (match D[f]? with | some d => _ | .none => _ : SemF) = _
    rw [e, ← e2]
  rw [he]
  refine fn_ok F Sc fun X W n hP hw hK hmg hbase hN hsc hcalm hfn hstk hfr hroom tk own => ?_
  exact (snd (L.md k) d.body).b (ccOf d st) X W n (defBody st) { prog := hP, w := hw, K := hK, mg := hmg, base := hbase, N := hN, sc := hsc, nodup := Sc.nd, calm := fun _ => hcalm, fnB := fun x _ => hfn x, hu := hroom.units, exn := ⟨fun a c h => by rw [L.exn] at h; cases h⟩, noex := fun _ => L.exn, room := fun _ => hroom, takes := fun _ => tk, own := fun _ => own, stk := fun _ => ⟨hstk, hfr⟩ } hck
theorem rl_start {F : Hp} : Rl K G F [] [] F := ⟨fun _ _ h => h, rfl, fun k a o h => by simp at h, fun j k a p q h => by simp at h, fun a h => by simp at h⟩
/-- the law's end: what it answers -/
def spLaw (K : PySem.W.Frag) : Sp := fun vs H Q _ => ∃ (a : Addr) (ns : List Int), vs = [.ref a] ∧ SqL K H a (ns.map L2.V.int) ∧ ns.length ≤ 63 ∧ ∀ H', Q (.bl true) H'
theorem law_imp {f : Nat} {k : Nat} (hv : ∀ ns : List Int, ns.length ≤ 63 → ∃ S', evCall D sub res k f [] [.d (.scr ns)] = .ok (.d (.bl true)) S') :
    ∀ vs H Q E, spLaw K vs H Q E → spF K G 1 (evCall D sub res k f) vs H Q E := by
  rintro vs H Q E ⟨a, ns, rfl, hS, hl, q⟩
  obtain ⟨S', h⟩ := hv ns hl
  refine ⟨rfl, H, [], [], [.d (.scr ns)], rl_start, .cons (.scr hS) .nil, ?_⟩
  rw [h]
  intro b H' F' μ' e R r
  cases r
  exact q _
end
end
end Pq

namespace Lk
open PySem PySem.Spec PyProof.Rows L2 Pq
def top (i : Nat) : Stmt := PySem.Challenge.pw_fewdistances_k40_sums_of_two_squares.main.body.getD i (.Pass ⟨0, 0, 0, 0⟩)

def d0 : Df := ⟨"is_whole", 1, ["thing"], (.cons (.ret (.and2 (.callB .isi (.cons (.nm 0) (.cons (.tyN "int") .nil))) (.and1 (.not (.callB .isi (.cons (.nm 0) (.cons (.tyN "bool") .nil))))))) .nil)⟩
def d1 : Df := ⟨"is_from", 3, ["thing", "low", "high"], (.cons (.ret (.and2 (.call 0 (.cons (.nm 0) .nil)) (.and1 (.cmp3 .LtE .LtE (.nm 1) (.nm 0) (.nm 2))))) .nil)⟩
def d2 : Df := ⟨"must_from", 3, ["thing", "low", "high"], (.cons (.ite (.not (.call 1 (.cons (.nm 0) (.cons (.nm 1) (.cons (.nm 2) .nil))))) (.cons (.raise 3) .nil) .nil) .nil)⟩
def d3_b0 : T := (.cons (.set 3 (.bin .FloorDiv (.bin .Add (.nm 1) (.nm 2)) (.int 2))) (.cons (.ite (.cmp .LtE (.bin .Mult (.nm 3) (.nm 3)) (.nm 0)) (.cons (.set 1 (.nm 3)) .nil) (.cons (.set 2 (.nm 3)) .nil)) .nil))
def d3_l0 : T := .while_ (.cmp .Gt (.bin .Sub (.nm 2) (.nm 1)) (.int 1)) d3_b0
def d3 : Df := ⟨"root_of", 1, ["number", "low", "high", "middle"], (.cons (.par2 1 2 (.int 0) (.bin .Add (.nm 0) (.int 1))) (.cons d3_l0 (.cons (.ret (.nm 1)) .nil)))⟩
def d4_b0 : T := (.cons (.set 4 (.bin .Add (.bin .Mult (.nm 2) (.nm 2)) (.bin .Mult (.nm 3) (.nm 3)))) (.cons (.ite (.cmp .Lt (.nm 4) (.nm 0)) (.cons (.set 2 (.bin .Add (.nm 2) (.int 1))) .nil) (.cons (.ite (.cmp .Gt (.nm 4) (.nm 0)) (.cons (.set 3 (.bin .Sub (.nm 3) (.int 1))) .nil) (.cons (.drop (.meth .append (.nm 1) (.cons (.tup (.cons (.nm 2) (.cons (.nm 3) .nil))) .nil))) (.cons (.par2 2 3 (.bin .Add (.nm 2) (.int 1)) (.bin .Sub (.nm 3) (.int 1))) .nil))) .nil)) .nil))
def d4_l0 : T := .while_ (.cmp .LtE (.nm 2) (.nm 3)) d4_b0
def d4 : Df := ⟨"ways_of", 1, ["number", "found", "one", "other", "here"], (.cons (.set 1 (.new .nil)) (.cons (.par2 2 3 (.int 0) (.call 3 (.cons (.nm 0) .nil))) (.cons d4_l0 (.cons (.ret (.nm 1)) .nil))))⟩
def d5 : Df := ⟨"sum_ways", 1, ["number"], (.cons (.drop (.call 2 (.cons (.nm 0) (.cons (.int 0) (.cons (.gint "MOST_WAYS" 1000000000) .nil))))) (.cons (.ret (.call 4 (.cons (.nm 0) .nil))) .nil))⟩
def d6 : Df := ⟨"_law_cell", 2, ["_law_script", "_law_k"], (.cons (.ite (.cmp .Lt (.nm 1) (.callB .len (.cons (.nm 0) .nil))) (.cons (.ret (.ix (.nm 0) (.nm 1))) .nil) .nil) (.cons (.ret (.int 0)) .nil))⟩
def d7 : Df := ⟨"_law_pen", 1, ["_law_cell_here"], (.cons (.ret (.new (.cons (.nm 0) (.cons (.callB .int (.cons (.cmp .GtE (.nm 0) (.bin .Pow (.int 10) (.int 18))) .nil)) .nil)))) .nil)⟩
def d8 : Df := ⟨"_law_draw", 2, ["_law_pen_here", "_law_many", "_law_found"], (.cons (.ite (.cmp .Eq (.ix (.nm 0) (.int 1)) (.int 1)) (.cons (.set 2 (.bin .Mod (.ix (.nm 0) (.int 0)) (.nm 1))) (.cons (.setit (.nm 0) (.int 0) (.bin .FloorDiv (.ix (.nm 0) (.int 0)) (.nm 1))) (.cons (.ret (.nm 2)) .nil))) .nil) (.cons (.setit (.nm 0) (.int 0) (.bin .Mod (.bin .Add (.bin .Mult (.bin .Mod (.ix (.nm 0) (.int 0)) (.int 2147483629)) (.int 48271)) (.int 11)) (.int 2147483629))) (.cons (.ret (.bin .Mod (.bin .FloorDiv (.bin .Mod (.bin .Add (.bin .Mult (.ix (.nm 0) (.int 0)) (.ix (.nm 0) (.int 0))) (.bin .Mult (.int 40692) (.ix (.nm 0) (.int 0)))) (.int 2147483647)) (.int 8)) (.nm 1))) .nil)))⟩
def d9_b0 : T := (.cons (.ite (.not (.call 9 (.cons (.nm 2) (.cons (.nm 3) .nil)))) (.cons (.ret (.bl false)) .nil) .nil) .nil)
def d9_l0 : T := .forz (.nm 0) (.nm 1) (.gtup (.cons (.gnm 2) (.cons (.gnm 3) .nil))) d9_b0
def d9 : Df := ⟨"_law_same", 2, ["_law_found", "_law_due", "_law_one", "_law_other"], (.cons (.ite (.cmp .Is (.nm 1) .non) (.cons (.ret (.cmp .Is (.nm 0) .non)) .nil) .nil) (.cons (.ite (.or2 (.callB .isi (.cons (.nm 1) (.cons (.tyN "tuple") .nil))) (.or1 (.callB .isi (.cons (.nm 1) (.cons (.tyN "list") .nil))))) (.cons (.ite (.or2 (.cmp .NotEq (.callB .isi (.cons (.nm 0) (.cons (.tyN "tuple") .nil))) (.callB .isi (.cons (.nm 1) (.cons (.tyN "tuple") .nil)))) (.or1 (.cmp .NotEq (.callB .isi (.cons (.nm 0) (.cons (.tyN "list") .nil))) (.callB .isi (.cons (.nm 1) (.cons (.tyN "list") .nil)))))) (.cons (.ret (.bl false)) .nil) .nil) (.cons (.ite (.cmp .NotEq (.callB .len (.cons (.nm 0) .nil)) (.callB .len (.cons (.nm 1) .nil))) (.cons (.ret (.bl false)) .nil) .nil) (.cons d9_l0 (.cons (.ret (.bl true)) .nil)))) .nil) (.cons (.ite (.callB .isi (.cons (.nm 1) (.cons (.tyN "str") .nil))) (.cons (.ret (.and2 (.callB .isi (.cons (.nm 0) (.cons (.tyN "str") .nil))) (.and1 (.cmp .Eq (.nm 0) (.nm 1))))) .nil) .nil) (.cons (.ret (.and2 (.cmp .Eq (.callB .isi (.cons (.nm 0) (.cons (.tyN "bool") .nil))) (.callB .isi (.cons (.nm 1) (.cons (.tyN "bool") .nil)))) (.and2 (.callB .isi (.cons (.nm 0) (.cons (.tyN "int") .nil))) (.and1 (.cmp .Eq (.nm 0) (.nm 1)))))) .nil))))⟩
def d10 : Df := ⟨"_law_kind_of", 1, ["_law_e", "_law_marks", "_law_words"], (.cons (.set 1 (.lst (.cons (.callB .isi (.cons (.nm 0) (.cons (.gcls 1) .nil))) (.cons (.callB .isi (.cons (.nm 0) (.cons (.gcls 2) .nil))) (.cons (.callB .isi (.cons (.nm 0) (.cons (.gcls 3) .nil))) (.cons (.callB .isi (.cons (.nm 0) (.cons (.gcls 4) .nil))) .nil)))))) (.cons (.set 1 (.bin .Add (.nm 1) (.lst (.cons (.callB .isi (.cons (.nm 0) (.cons (.gcls 5) .nil))) (.cons (.callB .isi (.cons (.nm 0) (.cons (.gcls 6) .nil))) (.cons (.callB .isi (.cons (.nm 0) (.cons (.gcls 7) .nil))) (.cons (.callB .isi (.cons (.nm 0) (.cons (.gcls 8) .nil))) .nil))))))) (.cons (.set 1 (.bin .Add (.nm 1) (.lst (.cons (.callB .isi (.cons (.nm 0) (.cons (.gcls 9) .nil))) (.cons (.callB .isi (.cons (.nm 0) (.cons (.gcls 10) .nil))) (.cons (.callB .isi (.cons (.nm 0) (.cons (.gcls 11) .nil))) .nil)))))) (.cons (.ite (.or2 (.not (.callB .isi (.cons (.nm 0) (.cons (.tyN "ValueError") .nil)))) (.or1 (.cmp .NotEq (.meth .countB (.nm 1) (.cons (.bl true) .nil)) (.int 1)))) (.cons (.ret (.str "other")) .nil) .nil) (.cons (.ite (.callB .isi (.cons (.nm 0) (.cons (.gcls 10) .nil))) (.cons (.ret (.lst (.cons (.str "alike") (.cons .bad (.cons .bad (.cons .bad (.cons .bad .nil))))))) .nil) .nil) (.cons (.ite (.callB .isi (.cons (.nm 0) (.cons (.gcls 11) .nil))) (.cons (.ret (.lst (.cons (.str "many") (.cons .bad (.cons .bad .nil))))) .nil) .nil) (.cons (.set 2 (.lst (.cons (.str "point") (.cons (.str "lot") (.cons (.str "number") (.cons (.str "circle") (.cons (.str "marks") (.cons (.str "fars") (.cons (.str "text") (.cons (.str "line") (.cons (.str "deed") .nil))))))))))) (.cons (.ret (.ix (.nm 2) (.meth .indexB (.nm 1) (.cons (.bl true) .nil)))) .nil))))))))⟩
def d11 : Df := ⟨"_law_no_number", 3, ["_law_pen_here", "_law_low", "_law_high", "_law_some"], (.cons (.set 3 (.lst (.cons (.bin .Sub (.nm 1) (.int 1)) (.cons (.bin .Add (.nm 2) (.int 1)) (.cons .non (.cons (.bl true) (.cons (.str "0") (.cons (.tup (.cons (.nm 1) .nil)) (.cons (.lst (.cons (.nm 1) .nil)) (.cons (.bin .Pow (.int 10) (.int 29)) (.cons (.bin .Sub (.int 0) (.bin .Pow (.int 10) (.int 29))) (.cons (.bl false) (.cons (.bin .Add (.nm 2) (.int 2)) .nil))))))))))))) (.cons (.ret (.ix (.nm 3) (.call 8 (.cons (.nm 0) (.cons (.int 11) .nil))))) .nil))⟩
def d12_b0 : T := (.cons (.set 1 (.bin .Add (.nm 1) (.int 1))) .nil)
def d12_l0 : T := .while_ (.cmp .LtE (.bin .Mult (.nm 1) (.nm 1)) (.nm 0)) d12_b0
def d12_b1 : T := (.cons (.set 4 (.bin .Add (.bin .Mult (.nm 3) (.nm 3)) (.bin .Mult (.nm 1) (.nm 1)))) (.cons (.ite (.cmp .Eq (.nm 4) (.nm 0)) (.cons (.drop (.meth .append (.nm 2) (.cons (.tup (.cons (.nm 3) (.cons (.nm 1) .nil))) .nil))) .nil) .nil) (.cons (.ite (.cmp .LtE (.nm 4) (.nm 0)) (.cons (.set 3 (.bin .Add (.nm 3) (.int 1))) .nil) (.cons (.set 1 (.bin .Sub (.nm 1) (.int 1))) .nil)) .nil)))
def d12_l1 : T := .while_ (.cmp .LtE (.nm 3) (.nm 1)) d12_b1
def d12 : Df := ⟨"_law_squares", 1, ["_law_number", "_law_high", "_law_found", "_law_low", "_law_here"], (.cons (.par3 2 3 1 (.new .nil) (.int 0) (.int 0)) (.cons d12_l0 (.cons (.set 1 (.bin .Sub (.nm 1) (.int 1))) (.cons d12_l1 (.cons (.ret (.nm 2)) .nil)))))⟩
def d13_b0 : T := (.cons (.ite (.cmp .Eq (.bin .Mod (.nm 0) (.nm 1)) (.int 0)) (.cons (.ret (.bl false)) .nil) .nil) (.cons (.set 1 (.bin .Add (.nm 1) (.int 1))) .nil))
def d13_l0 : T := .while_ (.cmp .LtE (.bin .Mult (.nm 1) (.nm 1)) (.nm 0)) d13_b0
def d13 : Df := ⟨"_law_is_prime", 1, ["_law_number", "_law_part"], (.cons (.set 1 (.int 2)) (.cons d13_l0 (.cons (.ret (.cmp .Gt (.nm 0) (.int 1))) .nil)))⟩
def d14_b1 : T := (.cons (.set 5 (.bin .Add (.nm 5) (.int 1))) .nil)
def d14_l1 : T := .while_ (.not (.call 12 (.cons (.nm 5) .nil))) d14_b1
def d14_b0 : T := (.cons (.set 5 (.ix (.lst (.cons (.int 2) (.cons (.int 3) (.cons (.int 5) (.cons (.int 5) (.cons (.int 7) (.cons (.int 13) (.cons (.int 17) (.cons (.int 29) (.cons (.int 101) (.cons (.int 9973) .nil))))))))))) (.call 8 (.cons (.nm 0) (.cons (.int 10) .nil))))) (.cons (.ite (.cmp .Eq (.call 8 (.cons (.nm 0) (.cons (.int 12) .nil))) (.int 0)) (.cons (.set 5 (.bin .Add (.int 2) (.call 8 (.cons (.nm 0) (.cons (.int 20000) .nil))))) (.cons d14_l1 .nil)) .nil) (.cons (.ite (.cmp .LtE (.bin .Mult (.nm 3) (.nm 5)) (.nm 1)) (.cons (.set 3 (.bin .Mult (.nm 3) (.nm 5))) (.cons (.setit (.nm 4) (.nm 5) (.bin .Add (.dget2 (.nm 4) (.nm 5) (.int 0)) (.int 1))) .nil)) .nil) .nil)))
def d14_l0 : T := .for_ (.irange1 (.bin .Add (.int 1) (.call 8 (.cons (.nm 0) (.cons (.int 8) .nil))))) (.gnm 2) d14_b0
def d14 : Df := ⟨"_law_product", 2, ["_law_pen_here", "_law_most", "_law_turn", "_law_found", "_law_primes", "_law_prime"], (.cons (.par2 3 4 (.int 1) .dnew) (.cons d14_l0 (.cons (.ret (.tup (.cons (.nm 3) (.cons (.frz (.nm 4)) .nil)))) .nil)))⟩
def d15 : Df := ⟨"_law_came", 1, ["_law_number", "_law_e"], (.cons (.tryk 1 (.call 5 (.cons (.nm 0) .nil))) .nil)⟩
def d16_b0 : T := (.cons (.gc [1] (.ite (.not (.call 9 (.cons (.call 14 (.cons (.nm 1) .nil)) (.cons (.call 11 (.cons (.nm 1) .nil)) .nil)))) (.cons (.ret (.bl false)) .nil) .nil)) .nil)
def d16_l0 : T := .for_ (.iseq (.lst (.cons (.int 0) (.cons (.int 1) (.cons (.int 2) (.cons (.int 3) (.cons (.int 25) (.cons (.int 50) (.cons (.int 325) (.cons (.int 5525) (.cons (.bin .Pow (.int 10) (.int 6)) (.cons (.bin .Pow (.int 10) (.int 9)) .nil)))))))))))) (.gnm 1) d16_b0
def d16_b3 : T := (.cons (.set 11 (.call 14 (.cons (.nm 1) .nil))) (.cons (.ite (.not (.call 9 (.cons (.nm 11) (.cons (.nm 9) .nil)))) (.cons (.ret (.bl false)) .nil) .nil) (.cons (.gc [10, 11] (.drop (.meth .append (.nm 11) (.cons (.tup .nil) .nil)))) .nil)))
def d16_l3 : T := .for_ (.irange1 (.int 2)) (.gnm 10) d16_b3
def d16_b2 : T := (.cons (.set 9 (.call 11 (.cons (.nm 1) .nil))) (.cons d16_l3 (.cons (.par2 12 13 (.call 14 (.cons (.nm 1) .nil)) (.call 14 (.cons (.int 1) .nil))) (.cons (.gc [1, 9, 12, 13] (.ite (.or2 (.cmp .NotEq (.nm 13) (.lst (.cons (.tup (.cons (.int 0) (.cons (.int 1) .nil))) .nil))) (.or1 (.not (.call 9 (.cons (.nm 12) (.cons (.nm 9) .nil)))))) (.cons (.ret (.bl false)) .nil) .nil)) .nil))))
def d16_l2 : T := .for_ (.iseq (.nm 5)) (.gnm 1) d16_b2
def d16_b4 : T := (.cons (.gc [6] (.ite (.cmp .NotEq (.call 14 (.cons (.nm 6) .nil)) (.str "number")) (.cons (.ret (.bl false)) .nil) .nil)) .nil)
def d16_l4 : T := .for_ (.iseq (.lst (.cons (.call 10 (.cons (.nm 3) (.cons (.int 0) (.cons (.bin .Pow (.int 10) (.int 9)) .nil)))) (.cons (.neg (.int 1)) (.cons (.bin .Add (.bin .Pow (.int 10) (.int 9)) (.int 1)) .nil))))) (.gnm 6) d16_b4
def d16_b1 : T := (.cons (.set 3 (.call 7 (.cons (.nm 2) .nil))) (.cons (.set 4 (.ix (.lst (.cons (.int 300) (.cons (.int 4000) (.cons (.int 22000) .nil)))) (.call 8 (.cons (.nm 3) (.cons (.int 3) .nil))))) (.cons (.par2 7 8 (.call 8 (.cons (.nm 3) (.cons (.nm 4) .nil))) (.call 8 (.cons (.nm 3) (.cons (.nm 4) .nil)))) (.cons (.set 5 (.lst (.cons (.call 8 (.cons (.nm 3) (.cons (.int 10000) .nil))) (.cons (.ix (.call 13 (.cons (.nm 3) (.cons (.bin .Pow (.int 10) (.int 6)) .nil))) (.int 0)) (.cons (.bin .Add (.bin .Mult (.nm 7) (.nm 7)) (.bin .Mult (.nm 8) (.nm 8))) (.cons (.bin .Mult (.nm 7) (.nm 7)) (.cons (.bin .Mult (.bin .Mult (.int 2) (.nm 7)) (.nm 7)) .nil))))))) (.cons d16_l2 (.cons (.gc [2, 3, 4, 5, 7, 8] d16_l4) .nil))))))
def d16_l1 : T := .for_ (.iseq (.bin .Add (.lst (.cons (.call 6 (.cons (.nm 0) (.cons (.int 0) .nil))) .nil)) (.sl (.nm 0) (.cons (.int 1) .nil) (.cons (.int 2) .nil)))) (.gnm 2) d16_b1
def d16 : Df := ⟨"law", 1, ["_law_script", "_law_number", "_law_cell_here", "_law_pen_here", "_law_wide", "_law_numbers", "_law_odd", "_law_a", "_law_b", "_law_due", "_law_turn", "_law_found", "_law_held", "_law_other"], (.cons d16_l0 (.cons d16_l1 (.cons (.ret (.bl true)) .nil)))⟩
def defs : List Df := [d0, d1, d2, d3, d4, d5, d6, d7, d8, d9, d11, d12, d13, d14, d15, d16]
def gc : Gc := { fns := [("is_whole", 1), ("is_from", 3), ("must_from", 3), ("root_of", 1), ("ways_of", 1), ("sum_ways", 1), ("_law_cell", 2), ("_law_pen", 1), ("_law_draw", 2), ("_law_same", 2), ("_law_no_number", 3), ("_law_squares", 1), ("_law_is_prime", 1), ("_law_product", 2), ("_law_came", 1), ("law", 1)], nums := [("MOST_WAYS", 1000000000)], clss := ["FarError", "NoPoint", "NoLot", "NoNumber", "NoCircle", "NoMarks", "NoFars", "NoText", "NoLine", "NoDeed", "Alike", "TooMany"], rais := [3], none := ["ValueError", "bool", "int", "isinstance", "len", "list", "range", "str", "tuple", "zip"], far := "FarError", kind := "_law_kind_of", hot := true }
theorem sc0 : FnScope d0.N ["thing"] (defScope (top 14)) := ⟨rfl, rfl, rfl, by decide +kernel, rfl, by decide +kernel, by decide +kernel⟩
theorem ck0 : (ck gc d0.body).b (ccOf d0 (top 14)) (defBody (top 14)) = true := by decide +kernel
theorem sc1 : FnScope d1.N ["thing", "low", "high"] (defScope (top 15)) := ⟨rfl, rfl, rfl, by decide +kernel, rfl, by decide +kernel, by decide +kernel⟩
theorem ck1 : (ck gc d1.body).b (ccOf d1 (top 15)) (defBody (top 15)) = true := by decide +kernel
theorem sc2 : FnScope d2.N ["thing", "low", "high"] (defScope (top 16)) := ⟨rfl, rfl, rfl, by decide +kernel, rfl, by decide +kernel, by decide +kernel⟩
theorem ck2 : (ck gc d2.body).b (ccOf d2 (top 16)) (defBody (top 16)) = true := by decide +kernel
theorem sc3 : FnScope d3.N ["number"] (defScope (top 19)) := ⟨rfl, rfl, rfl, by decide +kernel, rfl, by decide +kernel, by decide +kernel⟩
theorem ck3 : (ck gc d3.body).b (ccOf d3 (top 19)) (defBody (top 19)) = true := by decide +kernel
theorem sc4 : FnScope d4.N ["number"] (defScope (top 20)) := ⟨rfl, rfl, rfl, by decide +kernel, rfl, by decide +kernel, by decide +kernel⟩
theorem ck4 : (ck gc d4.body).b (ccOf d4 (top 20)) (defBody (top 20)) = true := by decide +kernel
theorem sc5 : FnScope d5.N ["number"] (defScope (top 21)) := ⟨rfl, rfl, rfl, by decide +kernel, rfl, by decide +kernel, by decide +kernel⟩
theorem ck5 : (ck gc d5.body).b (ccOf d5 (top 21)) (defBody (top 21)) = true := by decide +kernel
theorem sc6 : FnScope d6.N ["_law_script", "_law_k"] (defScope (top 23)) := ⟨rfl, rfl, rfl, by decide +kernel, rfl, by decide +kernel, by decide +kernel⟩
theorem ck6 : (ck gc d6.body).b (ccOf d6 (top 23)) (defBody (top 23)) = true := by decide +kernel
theorem sc7 : FnScope d7.N ["_law_cell_here"] (defScope (top 24)) := ⟨rfl, rfl, rfl, by decide +kernel, rfl, by decide +kernel, by decide +kernel⟩
theorem ck7 : (ck gc d7.body).b (ccOf d7 (top 24)) (defBody (top 24)) = true := by decide +kernel
theorem sc8 : FnScope d8.N ["_law_pen_here", "_law_many"] (defScope (top 25)) := ⟨rfl, rfl, rfl, by decide +kernel, rfl, by decide +kernel, by decide +kernel⟩
theorem ck8 : (ck gc d8.body).b (ccOf d8 (top 25)) (defBody (top 25)) = true := by decide +kernel
theorem sc9 : FnScope d9.N ["_law_found", "_law_due"] (defScope (top 26)) := ⟨rfl, rfl, rfl, by decide +kernel, rfl, by decide +kernel, by decide +kernel⟩
theorem ck9 : (ck gc d9.body).b (ccOf d9 (top 26)) (defBody (top 26)) = true := by decide +kernel
theorem sc10 : FnScope d10.N ["_law_e"] (defScope (top 27)) := ⟨rfl, rfl, rfl, by decide +kernel, rfl, by decide +kernel, by decide +kernel⟩
theorem ck10 : (ck (coldC gc) d10.body).b (ccHot d10 (top 27)) (defBody (top 27)) = true := by decide +kernel
theorem sc11 : FnScope d11.N ["_law_pen_here", "_law_low", "_law_high"] (defScope (top 28)) := ⟨rfl, rfl, rfl, by decide +kernel, rfl, by decide +kernel, by decide +kernel⟩
theorem ck11 : (ck gc d11.body).b (ccOf d11 (top 28)) (defBody (top 28)) = true := by decide +kernel
theorem sc12 : FnScope d12.N ["_law_number"] (defScope (top 29)) := ⟨rfl, rfl, rfl, by decide +kernel, rfl, by decide +kernel, by decide +kernel⟩
theorem ck12 : (ck gc d12.body).b (ccOf d12 (top 29)) (defBody (top 29)) = true := by decide +kernel
theorem sc13 : FnScope d13.N ["_law_number"] (defScope (top 30)) := ⟨rfl, rfl, rfl, by decide +kernel, rfl, by decide +kernel, by decide +kernel⟩
theorem ck13 : (ck gc d13.body).b (ccOf d13 (top 30)) (defBody (top 30)) = true := by decide +kernel
theorem sc14 : FnScope d14.N ["_law_pen_here", "_law_most"] (defScope (top 31)) := ⟨rfl, rfl, rfl, by decide +kernel, rfl, by decide +kernel, by decide +kernel⟩
theorem ck14 : (ck gc d14.body).b (ccOf d14 (top 31)) (defBody (top 31)) = true := by decide +kernel
theorem sc15 : FnScope d15.N ["_law_number"] (defScope (top 32)) := ⟨rfl, rfl, rfl, by decide +kernel, rfl, by decide +kernel, by decide +kernel⟩
theorem ck15 : (ck gc d15.body).b (ccOf d15 (top 32)) (defBody (top 32)) = true := by decide +kernel
theorem sc16 : FnScope d16.N ["_law_script"] (defScope (top 33)) := ⟨rfl, rfl, rfl, by decide +kernel, rfl, by decide +kernel, by decide +kernel⟩
theorem ck16 : (ck gc d16.body).b (ccOf d16 (top 33)) (defBody (top 33)) = true := by decide +kernel
def sub (c c' : Nat) : Bool := c == c' || c' == 0
def res : Nat → Option Str
  | 3 => some "number"
  | _ => none
theorem hres : ∀ c r, res c = some r → exitS 0 ((ev (V0 sub res) d10.body).s 0 ([some (.d (.exn c))] ++ List.replicate (d10.N.length - 1) none) []) = .ok (.d (.str r)) [] := by
  intro c r h
  unfold res at h
  split at h <;> first | (cases h; rfl) | cases h
end Lk

namespace Lk
open PySem PySem.Spec PyProof.Rows L2 Pq
abbrev cl (k f : Nat) : SemF := evCall defs sub res k f
theorem at0 {α : Type} (x : α) (l : List α) : atI (x :: l) 0 = some x := atI_nat (j := 0) rfl
theorem at1 {α : Type} (x y : α) (l : List α) : atI (x :: y :: l) 1 = some y := atI_nat (j := 1) rfl
theorem is_whole_int (k : Nat) (S : Sto) (i : Int) : cl (k+1) 0 S [.d (.int i)] = .ok (.d (.bl true)) S := by
  show fnS 1 1 (fun n => (ev ⟨cl k, sub, res⟩ d0.body).s n) S _ = _
  simp [fnS, d0, ev, Sm.ofE, Sm.ofS, nmS, kS, valT, bi2, un1, arS, cmpV, notT, notV, andT, andV, orT, orV, ifV, cmp2, cmp3, cmpS, consA, nilA, bfS, mtS, noA, one, two, bV, outB, boolS, view, viewO, seqS, nilS, thenS, setS, retS, ifS, dropS, raiseS, Out.bind, eqS, ltS, isNS, lenS, isiS, intS, tyOf, binS, addS, subS, mulS, fdivS, modS, powS, ixS, lstS, tupS, newS, asD, okTy, isiB, isBl, exitS, ixN, methS, TyOk, onR, appendS, Pq.setItem, setItS, par2S, par3S, negS, gcS, slS, partS, sliceS]
theorem is_from_int (k : Nat) (S : Sto) (i l h : Int) : cl (k+2) 1 S [.d (.int i), .d (.int l), .d (.int h)] = .ok (.d (.bl (decide (l ≤ i) && decide (i ≤ h)))) S := by
  show fnS 3 3 (fun n => (ev ⟨cl (k+1), sub, res⟩ d1.body).s n) S _ = _
  simp [fnS, d1, is_whole_int, ev, Sm.ofE, Sm.ofS, nmS, kS, valT, bi2, un1, arS, cmpV, notT, notV, andT, andV, orT, orV, ifV, cmp2, cmp3, cmpS, consA, nilA, bfS, mtS, noA, one, two, bV, outB, boolS, view, viewO, seqS, nilS, thenS, setS, retS, ifS, dropS, raiseS, Out.bind, eqS, ltS, isNS, lenS, isiS, intS, tyOf, binS, addS, subS, mulS, fdivS, modS, powS, ixS, lstS, tupS, newS, asD, okTy, isiB, isBl, exitS, ixN, methS, TyOk, onR, appendS, Pq.setItem, setItS, par2S, par3S, negS, gcS, slS, partS, sliceS]
  by_cases h1 : l ≤ i <;> simp [h1]
theorem must_from_int (k : Nat) (S : Sto) (i l h : Int) : cl (k+3) 2 S [.d (.int i), .d (.int l), .d (.int h)] = if l ≤ i ∧ i ≤ h then .ok (.d .non) S else .exc ⟨3, []⟩ S := by
  have e := is_from_int k S i l h
  have hb : (decide (l ≤ i) && decide (i ≤ h)) = decide (l ≤ i ∧ i ≤ h) := by simp
  rw [hb] at e
  show fnS 3 3 (fun n => (ev ⟨cl (k+2), sub, res⟩ d2.body).s n) S _ = _
  by_cases h1 : l ≤ i ∧ i ≤ h
  · rw [decide_eq_true h1] at e
    rw [if_pos h1]
    simp [fnS, d2, e, ev, Sm.ofE, Sm.ofS, nmS, kS, valT, bi2, un1, arS, cmpV, notT, notV, andT, andV, orT, orV, ifV, cmp2, cmp3, cmpS, consA, nilA, bfS, mtS, noA, one, two, bV, outB, boolS, view, viewO, seqS, nilS, thenS, setS, retS, ifS, dropS, raiseS, Out.bind, eqS, ltS, isNS, lenS, isiS, intS, tyOf, binS, addS, subS, mulS, fdivS, modS, powS, ixS, lstS, tupS, newS, asD, okTy, isiB, isBl, exitS, ixN, methS, TyOk, onR, appendS, Pq.setItem, setItS, par2S, par3S, negS, gcS, slS, partS, sliceS]
  · rw [decide_eq_false h1] at e
    rw [if_neg h1]
    simp [fnS, d2, e, ev, Sm.ofE, Sm.ofS, nmS, kS, valT, bi2, un1, arS, cmpV, notT, notV, andT, andV, orT, orV, ifV, cmp2, cmp3, cmpS, consA, nilA, bfS, mtS, noA, one, two, bV, outB, boolS, view, viewO, seqS, nilS, thenS, setS, retS, ifS, dropS, raiseS, Out.bind, eqS, ltS, isNS, lenS, isiS, intS, tyOf, binS, addS, subS, mulS, fdivS, modS, powS, ixS, lstS, tupS, newS, asD, okTy, isiB, isBl, exitS, ixN, methS, TyOk, onR, appendS, Pq.setItem, setItS, par2S, par3S, negS, gcS, slS, partS, sliceS]
/-- what is no whole number at all -/
def odd : D → Bool
  | .non => true | .bl _ => true | .str _ => true | .tup _ => true | .lst _ => true
  | _ => false
theorem is_whole_odd (k : Nat) (S : Sto) (d : D) (h : odd d = true) : cl (k+1) 0 S [.d d] = .ok (.d (.bl false)) S := by
  show fnS 1 1 (fun n => (ev ⟨cl k, sub, res⟩ d0.body).s n) S _ = _
  cases d <;> first | (cases h; done) | simp [fnS, d0, ev, Sm.ofE, Sm.ofS, nmS, kS, valT, bi2, un1, arS, cmpV, notT, notV, andT, andV, orT, orV, ifV, cmp2, cmp3, cmpS, consA, nilA, bfS, mtS, noA, one, two, bV, outB, boolS, view, viewO, seqS, nilS, thenS, setS, retS, ifS, dropS, raiseS, Out.bind, eqS, ltS, isNS, lenS, isiS, intS, tyOf, binS, addS, subS, mulS, fdivS, modS, powS, ixS, lstS, tupS, newS, asD, okTy, isiB, isBl, exitS, ixN, methS, TyOk, onR, appendS, Pq.setItem, setItS, par2S, par3S, negS, gcS, slS, partS, sliceS]
theorem must_from_odd (k : Nat) (S : Sto) (d : D) (l h : Int) (ho : odd d = true) : cl (k+3) 2 S [.d d, .d (.int l), .d (.int h)] = .exc ⟨3, []⟩ S := by
  have e : cl (k+2) 1 S [.d d, .d (.int l), .d (.int h)] = .ok (.d (.bl false)) S := by
    show fnS 3 3 (fun n => (ev ⟨cl (k+1), sub, res⟩ d1.body).s n) S _ = _
    simp [fnS, d1, is_whole_odd, ho, ev, Sm.ofE, Sm.ofS, nmS, kS, valT, bi2, un1, arS, cmpV, notT, notV, andT, andV, orT, orV, ifV, cmp2, cmp3, cmpS, consA, nilA, bfS, mtS, noA, one, two, bV, outB, boolS, view, viewO, seqS, nilS, thenS, setS, retS, ifS, dropS, raiseS, Out.bind, eqS, ltS, isNS, lenS, isiS, intS, tyOf, binS, addS, subS, mulS, fdivS, modS, powS, ixS, lstS, tupS, newS, asD, okTy, isiB, isBl, exitS, ixN, methS, TyOk, onR, appendS, Pq.setItem, setItS, par2S, par3S, negS, gcS, slS, partS, sliceS]
  show fnS 3 3 (fun n => (ev ⟨cl (k+2), sub, res⟩ d2.body).s n) S _ = _
  simp [fnS, d2, e, ev, Sm.ofE, Sm.ofS, nmS, kS, valT, bi2, un1, arS, cmpV, notT, notV, andT, andV, orT, orV, ifV, cmp2, cmp3, cmpS, consA, nilA, bfS, mtS, noA, one, two, bV, outB, boolS, view, viewO, seqS, nilS, thenS, setS, retS, ifS, dropS, raiseS, Out.bind, eqS, ltS, isNS, lenS, isiS, intS, tyOf, binS, addS, subS, mulS, fdivS, modS, powS, ixS, lstS, tupS, newS, asD, okTy, isiB, isBl, exitS, ixN, methS, TyOk, onR, appendS, Pq.setItem, setItS, par2S, par3S, negS, gcS, slS, partS, sliceS]
/-- a pen -/
def penO (p f : Int) : O := .lst [.int p, .int f]
theorem draw_ok (k : Nat) (S : Sto) (j : Nat) (p f m : Int) (hp : S[j]? = some (penO p f)) (hm : 0 < m) (hm2 : m < 1000000) : ∃ r p', 0 ≤ r ∧ r < m ∧ cl (k+1) 8 S [.r j, .d (.int m)] = .ok (.d (.int r)) (S.set j (penO p' f)) := by
  have hj : j < S.length := by
    rcases Nat.lt_or_ge j S.length with h | h
    · exact h
    · rw [List.getElem?_eq_none h] at hp; cases hp
  have hm3 : m < 18446744073709551616 := by omega
  have hs : ∀ o, (S.set j o)[j]? = some o := fun o => by rw [List.getElem?_set_self hj]
  have ht : ∀ o, (S.set j o).take S.length = S.set j o := fun o => List.take_of_length_le (by simp)
  have hm4 : -18446744073709551616 < m := by omega
  by_cases hf : f = 1
  · refine ⟨p % m, p / m, Int.emod_nonneg _ (by omega), Int.emod_lt_of_pos _ hm, ?_⟩
    show fnS 2 3 (fun n => (ev ⟨cl k, sub, res⟩ d8.body).s n) S _ = _
    simp [fnS, d8, hp, penO, at0, at1, hf, hm, hm3, hs, ht, ev, Sm.ofE, Sm.ofS, nmS, kS, valT, bi2, un1, arS, cmpV, notT, notV, andT, andV, orT, orV, ifV, cmp2, cmp3, cmpS, consA, nilA, bfS, mtS, noA, one, two, bV, outB, boolS, view, viewO, seqS, nilS, thenS, setS, retS, ifS, dropS, raiseS, Out.bind, eqS, ltS, isNS, lenS, isiS, intS, tyOf, binS, addS, subS, mulS, fdivS, modS, powS, ixS, lstS, tupS, newS, asD, okTy, isiB, isBl, exitS, ixN, methS, TyOk, onR, appendS, Pq.setItem, setItS, par2S, par3S, negS, gcS, slS, partS, sliceS]
  · have hq0 : 0 ≤ (p % 2147483629 * 48271 + 11) % 2147483629 := Int.emod_nonneg _ (by omega)
    have hq1 : (p % 2147483629 * 48271 + 11) % 2147483629 < 2147483629 := Int.emod_lt_of_pos _ (by omega)
    have hq2 : -18446744073709551616 < (p % 2147483629 * 48271 + 11) % 2147483629 := by omega
    have hq3 : (p % 2147483629 * 48271 + 11) % 2147483629 < 18446744073709551616 := by omega
    refine ⟨((p % 2147483629 * 48271 + 11) % 2147483629 * ((p % 2147483629 * 48271 + 11) % 2147483629) + 40692 * ((p % 2147483629 * 48271 + 11) % 2147483629)) % 2147483647 / 8 % m, (p % 2147483629 * 48271 + 11) % 2147483629, Int.emod_nonneg _ (by omega), Int.emod_lt_of_pos _ hm, ?_⟩
    show fnS 2 3 (fun n => (ev ⟨cl k, sub, res⟩ d8.body).s n) S _ = _
    simp [fnS, d8, hp, penO, at0, at1, hf, hm, hm3, hs, ht, hq2, hq3, ev, Sm.ofE, Sm.ofS, nmS, kS, valT, bi2, un1, arS, cmpV, notT, notV, andT, andV, orT, orV, ifV, cmp2, cmp3, cmpS, consA, nilA, bfS, mtS, noA, one, two, bV, outB, boolS, view, viewO, seqS, nilS, thenS, setS, retS, ifS, dropS, raiseS, Out.bind, eqS, ltS, isNS, lenS, isiS, intS, tyOf, binS, addS, subS, mulS, fdivS, modS, powS, ixS, lstS, tupS, newS, asD, okTy, isiB, isBl, exitS, ixN, methS, TyOk, onR, appendS, Pq.setItem, setItS, par2S, par3S, negS, gcS, slS, partS, sliceS]
theorem while_stop {t : SemT} {fb : SemS} {ρ : Ev} {S : Sto} (m : Nat) (h : t ρ S = .ok false S) : whileL t fb (m+1) ρ S = .ok (.nx ρ) S := by
  unfold whileL; rw [h]; rfl
theorem while_go {t : SemT} {fb : SemS} {ρ ρ2 : Ev} {S S2 : Sto} (m : Nat) (h : t ρ S = .ok true S) (hb : fb ρ S = .ok (.nx ρ2) S2) : whileL t fb (m+1) ρ S = whileL t fb m ρ2 S2 := by
  simp only [whileL, h, Out.bind, if_true, hb]
theorem while_ret {t : SemT} {fb : SemS} {ρ : Ev} {S S2 : Sto} {u : U} (m : Nat) (h : t ρ S = .ok true S) (hb : fb ρ S = .ok (.rt u) S2) : whileL t fb (m+1) ρ S = .ok (.rt u) S2 := by
  simp only [whileL, h, Out.bind, if_true, hb]
abbrev I (i : Int) : Option U := some (.d (.int i))
abbrev t3 : T := .cmp .Gt (.bin .Sub (.nm 2) (.nm 1)) (.int 1)
theorem root_loop (V : Gv) (n0 : Nat) (S : Sto) (n : Int) : ∀ (d : Nat) (low high : Int) (mid : Option U), 0 ≤ low → low < high → high - low ≤ d → high ≤ 2000000000 → low * low ≤ n → n < high * high → ∀ m, d < m →
    ∃ r hi' mid', 0 ≤ r ∧ r < high ∧ r * r ≤ n ∧ n < (r + 1) * (r + 1) ∧ whileL (ev V t3).t ((ev V d3_b0).s n0) m [I n, I low, I high, mid] S = .ok (.nx [I n, I r, I hi', mid']) S := by
  intro d
  induction d with
  | zero => intro low high mid h0 h1 h2; omega
  | succ d ih =>
    intro low high mid h0 h1 h2 h3 h4 h5 m hm
    obtain ⟨m, rfl⟩ : ∃ m', m = m' + 1 := ⟨m - 1, by omega⟩
    by_cases hg : high - low > 1
    · obtain ⟨q, hq, hq1, hq2⟩ : ∃ q, q = (low + high) / 2 ∧ low < q ∧ q < high := ⟨_, rfl, by omega, by omega⟩
      have b1 : -18446744073709551616 < q := by omega
      have b2 : q < 18446744073709551616 := by omega
      have ht : (ev V t3).t [I n, I low, I high, mid] S = .ok true S := by simp [t3, I, ev, Sm.ofE, Sm.ofS, nmS, kS, valT, bi2, un1, arS, cmpV, notT, notV, andT, andV, orT, orV, ifV, cmp2, cmp3, cmpS, consA, nilA, bfS, mtS, noA, one, two, bV, outB, boolS, view, viewO, seqS, nilS, thenS, setS, retS, ifS, dropS, raiseS, Out.bind, eqS, ltS, isNS, lenS, isiS, intS, tyOf, binS, addS, subS, mulS, fdivS, modS, powS, ixS, lstS, tupS, newS, asD, okTy, isiB, isBl, exitS, ixN, methS, TyOk, onR, appendS, Pq.setItem, setItS, par2S, par3S, negS, gcS, slS, partS, sliceS]; omega
      by_cases hc : q * q ≤ n
      · obtain ⟨r, hi', mid', c1, c2, c3, c4, e⟩ := ih q high (I q) (by omega) hq2 (by omega) h3 hc h5 m (by omega)
        refine ⟨r, hi', mid', c1, c2, c3, c4, ?_⟩
        rw [while_go (ρ2 := [I n, I q, I high, I q]) (S2 := S) m ht, e]
        simp [d3_b0, I, ← hq, b1, b2, hc, ev, Sm.ofE, Sm.ofS, nmS, kS, valT, bi2, un1, arS, cmpV, notT, notV, andT, andV, orT, orV, ifV, cmp2, cmp3, cmpS, consA, nilA, bfS, mtS, noA, one, two, bV, outB, boolS, view, viewO, seqS, nilS, thenS, setS, retS, ifS, dropS, raiseS, Out.bind, eqS, ltS, isNS, lenS, isiS, intS, tyOf, binS, addS, subS, mulS, fdivS, modS, powS, ixS, lstS, tupS, newS, asD, okTy, isiB, isBl, exitS, ixN, methS, TyOk, onR, appendS, Pq.setItem, setItS, par2S, par3S, negS, gcS, slS, partS, sliceS]
      · obtain ⟨r, hi', mid', c1, c2, c3, c4, e⟩ := ih low q (I q) h0 hq1 (by omega) (by omega) h4 (by omega) m (by omega)
        refine ⟨r, hi', mid', c1, by omega, c3, c4, ?_⟩
        rw [while_go (ρ2 := [I n, I low, I q, I q]) (S2 := S) m ht, e]
        simp [d3_b0, I, ← hq, b1, b2, hc, ev, Sm.ofE, Sm.ofS, nmS, kS, valT, bi2, un1, arS, cmpV, notT, notV, andT, andV, orT, orV, ifV, cmp2, cmp3, cmpS, consA, nilA, bfS, mtS, noA, one, two, bV, outB, boolS, view, viewO, seqS, nilS, thenS, setS, retS, ifS, dropS, raiseS, Out.bind, eqS, ltS, isNS, lenS, isiS, intS, tyOf, binS, addS, subS, mulS, fdivS, modS, powS, ixS, lstS, tupS, newS, asD, okTy, isiB, isBl, exitS, ixN, methS, TyOk, onR, appendS, Pq.setItem, setItS, par2S, par3S, negS, gcS, slS, partS, sliceS]
    · refine ⟨low, high, mid, h0, h1, h4, ?_, ?_⟩
      · have : high = low + 1 := by omega
        rw [← this]; exact h5
      · refine while_stop m ?_
        simp [t3, I, ev, Sm.ofE, Sm.ofS, nmS, kS, valT, bi2, un1, arS, cmpV, notT, notV, andT, andV, orT, orV, ifV, cmp2, cmp3, cmpS, consA, nilA, bfS, mtS, noA, one, two, bV, outB, boolS, view, viewO, seqS, nilS, thenS, setS, retS, ifS, dropS, raiseS, Out.bind, eqS, ltS, isNS, lenS, isiS, intS, tyOf, binS, addS, subS, mulS, fdivS, modS, powS, ixS, lstS, tupS, newS, asD, okTy, isiB, isBl, exitS, ixN, methS, TyOk, onR, appendS, Pq.setItem, setItS, par2S, par3S, negS, gcS, slS, partS, sliceS]; omega
theorem root_ok (k : Nat) (S : Sto) (n : Int) (h0 : 0 ≤ n) (h1 : n ≤ 1000000000) : ∃ r, 0 ≤ r ∧ r ≤ 1000000000 ∧ r * r ≤ n ∧ n < (r + 1) * (r + 1) ∧ cl (k+1) 3 S [.d (.int n)] = .ok (.d (.int r)) S := by
  obtain ⟨r, hi', mid', c1, c2, c3, c4, e⟩ := root_loop ⟨cl k, sub, res⟩ S.length S n (n.toNat + 1) 0 (n + 1) none (by omega) (by omega) (by omega) (by omega) (by omega) (by have := Int.mul_nonneg h0 h0; rw [Int.add_mul, Int.mul_add]; omega) FUEL (by unfold FUEL; omega)
  refine ⟨r, c1, by omega, c3, c4, ?_⟩
  have e' : (ev ⟨cl k, sub, res⟩ d3_l0).s S.length [I n, I 0, I (n+1), none] S = .ok (.nx [I n, I r, I hi', mid']) S := e
  show fnS 1 4 (fun n => (ev ⟨cl k, sub, res⟩ d3.body).s n) S _ = _
  simp [I] at e'
  simp [fnS, d3, e', ev, Sm.ofE, Sm.ofS, nmS, kS, valT, bi2, un1, arS, cmpV, notT, notV, andT, andV, orT, orV, ifV, cmp2, cmp3, cmpS, consA, nilA, bfS, mtS, noA, one, two, bV, outB, boolS, view, viewO, seqS, nilS, thenS, setS, retS, ifS, dropS, raiseS, Out.bind, eqS, ltS, isNS, lenS, isiS, intS, tyOf, binS, addS, subS, mulS, fdivS, modS, powS, ixS, lstS, tupS, newS, asD, okTy, isiB, isBl, exitS, ixN, methS, TyOk, onR, appendS, Pq.setItem, setItS, par2S, par3S, negS, gcS, slS, partS, sliceS]
theorem sq_mono {a b : Int} (h0 : 0 ≤ a) (h : a ≤ b) : a * a ≤ b * b := Int.mul_le_mul h h h0 (by omega)
theorem sq_small {r n : Int} (h0 : 0 ≤ r) (h : r * r ≤ n) (hn : n ≤ 1000000000) : r ≤ 31622 := by
  rcases Int.lt_or_le 31622 r with h1 | h1
  · have := sq_mono (a := 31623) (b := r) (by omega) (by omega)
    omega
  · exact h1
theorem sq_uni {r s n : Int} (h0 : 0 ≤ r) (k0 : 0 ≤ s) (h1 : r * r ≤ n) (h2 : n < (r + 1) * (r + 1)) (k1 : s * s ≤ n) (k2 : n < (s + 1) * (s + 1)) : r = s := by
  rcases Int.lt_trichotomy r s with h | h | h
  · have := sq_mono (a := r + 1) (b := s) (by omega) (by omega); omega
  · exact h
  · have := sq_mono (a := s + 1) (b := r) (by omega) (by omega); omega
/-- the two ends' walk -/
def tp : Nat → Int → Int → Int → List (Int × Int)
  | 0, _, _, _ => []
  | d + 1, n, a, b => if a ≤ b then (if a * a + b * b < n then tp d n (a + 1) b else if n < a * a + b * b then tp d n a (b - 1) else (a, b) :: tp d n (a + 1) (b - 1)) else []
theorem tp_nil : ∀ (d : Nat) (n a b : Int), b < a → tp d n a b = []
  | 0, _, _, _, _ => rfl
  | d + 1, n, a, b, h => by unfold tp; rw [if_neg (by omega)]
theorem tp_len : ∀ (d : Nat) (n a b : Int), (tp d n a b).length ≤ d
  | 0, _, _, _ => Nat.le_refl _
  | d + 1, n, a, b => by
    unfold tp
    have h1 := tp_len d n (a + 1) b
    have h2 := tp_len d n a (b - 1)
    have h3 := tp_len d n (a + 1) (b - 1)
    split
    · split
      · omega
      · split
        · omega
        · simp; omega
    · simp
def prD (p : Int × Int) : D := .tup [.int p.1, .int p.2]
theorem cget (S : Sto) (o : O) : (S ++ [o])[S.length]? = some o := by simp
theorem cset (S : Sto) (o p : O) : (S ++ [o]).set S.length p = S ++ [p] := by simp
abbrev t4 : T := .cmp .LtE (.nm 2) (.nm 3)
theorem ways_loop (V : Gv) (n0 : Nat) (S : Sto) (n : Int) : ∀ (d : Nat) (a b : Int) (acc : List D) (h : Option U), 0 ≤ a → b ≤ 40000 → b - a + 1 ≤ d → acc.length + d ≤ 100000 → ∀ m, d < m →
    ∃ a' b' h', whileL (ev V t4).t ((ev V d4_b0).s n0) m [I n, some (.r S.length), I a, I b, h] (S ++ [.lst acc]) = .ok (.nx [I n, some (.r S.length), a', b', h']) (S ++ [.lst (acc ++ (tp d n a b).map prD)]) := by
  intro d
  induction d with
  | zero =>
    intro a b acc h h0 h1 h2 h3 m hm
    obtain ⟨m, rfl⟩ : ∃ m', m = m' + 1 := ⟨m - 1, by omega⟩
    refine ⟨I a, I b, h, (while_stop m ?_).trans (by simp [tp])⟩
    simp [t4, I, ev, Sm.ofE, Sm.ofS, nmS, kS, valT, bi2, un1, arS, cmpV, notT, notV, andT, andV, orT, orV, ifV, cmp2, cmp3, cmpS, consA, nilA, bfS, mtS, noA, one, two, bV, outB, boolS, view, viewO, seqS, nilS, thenS, setS, retS, ifS, dropS, raiseS, Out.bind, eqS, ltS, isNS, lenS, isiS, intS, tyOf, binS, addS, subS, mulS, fdivS, modS, powS, ixS, lstS, tupS, newS, asD, okTy, isiB, isBl, exitS, ixN, methS, TyOk, onR, appendS, Pq.setItem, setItS, par2S, par3S, negS, gcS, slS, partS, sliceS]; omega
  | succ d ih =>
    intro a b acc h h0 h1 h2 h3 m hm
    obtain ⟨m, rfl⟩ : ∃ m', m = m' + 1 := ⟨m - 1, by omega⟩
    by_cases hg : a ≤ b
    · have b1 : -18446744073709551616 < a := by omega
      have b2 : a < 18446744073709551616 := by omega
      have b3 : -18446744073709551616 < b := by omega
      have b4 : b < 18446744073709551616 := by omega
      have ht : (ev V t4).t [I n, some (.r S.length), I a, I b, h] (S ++ [.lst acc]) = .ok true (S ++ [.lst acc]) := by simp [t4, I, hg, ev, Sm.ofE, Sm.ofS, nmS, kS, valT, bi2, un1, arS, cmpV, notT, notV, andT, andV, orT, orV, ifV, cmp2, cmp3, cmpS, consA, nilA, bfS, mtS, noA, one, two, bV, outB, boolS, view, viewO, seqS, nilS, thenS, setS, retS, ifS, dropS, raiseS, Out.bind, eqS, ltS, isNS, lenS, isiS, intS, tyOf, binS, addS, subS, mulS, fdivS, modS, powS, ixS, lstS, tupS, newS, asD, okTy, isiB, isBl, exitS, ixN, methS, TyOk, onR, appendS, Pq.setItem, setItS, par2S, par3S, negS, gcS, slS, partS, sliceS]
      unfold tp
      rw [if_pos hg]
      by_cases c1 : a * a + b * b < n
      · rw [if_pos c1]
        obtain ⟨a', b', h', e⟩ := ih (a + 1) b acc (I (a * a + b * b)) (by omega) h1 (by omega) (by omega) m (by omega)
        refine ⟨a', b', h', ?_⟩
        rw [while_go m ht (ρ2 := [I n, some (.r S.length), I (a + 1), I b, I (a * a + b * b)]) (S2 := S ++ [.lst acc]), e]
        simp [d4_b0, I, b1, b2, b3, b4, c1, ev, Sm.ofE, Sm.ofS, nmS, kS, valT, bi2, un1, arS, cmpV, notT, notV, andT, andV, orT, orV, ifV, cmp2, cmp3, cmpS, consA, nilA, bfS, mtS, noA, one, two, bV, outB, boolS, view, viewO, seqS, nilS, thenS, setS, retS, ifS, dropS, raiseS, Out.bind, eqS, ltS, isNS, lenS, isiS, intS, tyOf, binS, addS, subS, mulS, fdivS, modS, powS, ixS, lstS, tupS, newS, asD, okTy, isiB, isBl, exitS, ixN, methS, TyOk, onR, appendS, Pq.setItem, setItS, par2S, par3S, negS, gcS, slS, partS, sliceS]
      · rw [if_neg c1]
        by_cases c2 : n < a * a + b * b
        · rw [if_pos c2]
          obtain ⟨a', b', h', e⟩ := ih a (b - 1) acc (I (a * a + b * b)) h0 (by omega) (by omega) (by omega) m (by omega)
          refine ⟨a', b', h', ?_⟩
          rw [while_go m ht (ρ2 := [I n, some (.r S.length), I a, I (b - 1), I (a * a + b * b)]) (S2 := S ++ [.lst acc]), e]
          simp [d4_b0, I, b1, b2, b3, b4, c1, c2, ev, Sm.ofE, Sm.ofS, nmS, kS, valT, bi2, un1, arS, cmpV, notT, notV, andT, andV, orT, orV, ifV, cmp2, cmp3, cmpS, consA, nilA, bfS, mtS, noA, one, two, bV, outB, boolS, view, viewO, seqS, nilS, thenS, setS, retS, ifS, dropS, raiseS, Out.bind, eqS, ltS, isNS, lenS, isiS, intS, tyOf, binS, addS, subS, mulS, fdivS, modS, powS, ixS, lstS, tupS, newS, asD, okTy, isiB, isBl, exitS, ixN, methS, TyOk, onR, appendS, Pq.setItem, setItS, par2S, par3S, negS, gcS, slS, partS, sliceS]
        · rw [if_neg c2]
          obtain ⟨a', b', h', e⟩ := ih (a + 1) (b - 1) (acc ++ [prD (a, b)]) (I (a * a + b * b)) (by omega) (by omega) (by omega) (by simp; omega) m (by omega)
          refine ⟨a', b', h', ?_⟩
          rw [while_go m ht (ρ2 := [I n, some (.r S.length), I (a + 1), I (b - 1), I (a * a + b * b)]) (S2 := S ++ [.lst (acc ++ [prD (a, b)])]), e]
          · simp
          · have hl : acc.length < 16777216 := by omega
            simp [d4_b0, I, b1, b2, b3, b4, c1, c2, hl, cget, cset, prD, ev, Sm.ofE, Sm.ofS, nmS, kS, valT, bi2, un1, arS, cmpV, notT, notV, andT, andV, orT, orV, ifV, cmp2, cmp3, cmpS, consA, nilA, bfS, mtS, noA, one, two, bV, outB, boolS, view, viewO, seqS, nilS, thenS, setS, retS, ifS, dropS, raiseS, Out.bind, eqS, ltS, isNS, lenS, isiS, intS, tyOf, binS, addS, subS, mulS, fdivS, modS, powS, ixS, lstS, tupS, newS, asD, okTy, isiB, isBl, exitS, ixN, methS, TyOk, onR, appendS, Pq.setItem, setItS, par2S, par3S, negS, gcS, slS, partS, sliceS]
    · rw [tp_nil _ _ _ _ (by omega)]
      refine ⟨I a, I b, h, (while_stop m ?_).trans (by simp)⟩
      simp [t4, I, ev, Sm.ofE, Sm.ofS, nmS, kS, valT, bi2, un1, arS, cmpV, notT, notV, andT, andV, orT, orV, ifV, cmp2, cmp3, cmpS, consA, nilA, bfS, mtS, noA, one, two, bV, outB, boolS, view, viewO, seqS, nilS, thenS, setS, retS, ifS, dropS, raiseS, Out.bind, eqS, ltS, isNS, lenS, isiS, intS, tyOf, binS, addS, subS, mulS, fdivS, modS, powS, ixS, lstS, tupS, newS, asD, okTy, isiB, isBl, exitS, ixN, methS, TyOk, onR, appendS, Pq.setItem, setItS, par2S, par3S, negS, gcS, slS, partS, sliceS]; omega
theorem ways_ok (k : Nat) (S : Sto) (n r : Int) (h0 : 0 ≤ n) (h1 : n ≤ 1000000000) (r0 : 0 ≤ r) (r1 : r * r ≤ n) (r2 : n < (r + 1) * (r + 1)) : cl (k+2) 4 S [.d (.int n)] = .ok (.r S.length) (S ++ [.lst ((tp (r.toNat + 1) n 0 r).map prD)]) := by
  obtain ⟨q, c1, c2, c3, c4, e⟩ := root_ok k (S ++ [.lst []]) n h0 h1
  obtain rfl : r = q := sq_uni r0 c1 r1 r2 c3 c4
  have hs := sq_small r0 r1 h1
  obtain ⟨a', b', h', e2⟩ := ways_loop ⟨cl (k+1), sub, res⟩ S.length S n (r.toNat + 1) 0 r [] none (by omega) (by omega) (by omega) (by simp; omega) FUEL (by unfold FUEL; omega)
  have e' : (ev ⟨cl (k+1), sub, res⟩ d4_l0).s S.length [I n, some (.r S.length), I 0, I r, none] (S ++ [.lst []]) = .ok (.nx [I n, some (.r S.length), a', b', h']) (S ++ [.lst ([] ++ (tp (r.toNat + 1) n 0 r).map prD)]) := e2
  show fnS 1 5 (fun n => (ev ⟨cl (k+1), sub, res⟩ d4.body).s n) S _ = _
  simp [I] at e'
  simp [fnS, d4, e', e, ev, Sm.ofE, Sm.ofS, nmS, kS, valT, bi2, un1, arS, cmpV, notT, notV, andT, andV, orT, orV, ifV, cmp2, cmp3, cmpS, consA, nilA, bfS, mtS, noA, one, two, bV, outB, boolS, view, viewO, seqS, nilS, thenS, setS, retS, ifS, dropS, raiseS, Out.bind, eqS, ltS, isNS, lenS, isiS, intS, tyOf, binS, addS, subS, mulS, fdivS, modS, powS, ixS, lstS, tupS, newS, asD, okTy, isiB, isBl, exitS, ixN, methS, TyOk, onR, appendS, Pq.setItem, setItS, par2S, par3S, negS, gcS, slS, partS, sliceS]
abbrev t12 : T := .cmp .LtE (.bin .Mult (.nm 1) (.nm 1)) (.nm 0)
abbrev t12' : T := .cmp .LtE (.nm 3) (.nm 1)
theorem high_loop (V : Gv) (n0 : Nat) (S : Sto) (n r : Int) (f l h : Option U) (hr : r ≤ 40000) (r1 : r * r ≤ n) (r2 : n < (r + 1) * (r + 1)) : ∀ (d : Nat) (g : Int), 0 ≤ g → g ≤ r + 1 → r + 1 - g ≤ d → ∀ m, d < m →
    whileL (ev V t12).t ((ev V d12_b0).s n0) m [I n, I g, f, l, h] S = .ok (.nx [I n, I (r + 1), f, l, h]) S := by
  intro d
  induction d with
  | zero =>
    intro g h0 h1 h2 m hm
    obtain ⟨m, rfl⟩ : ∃ m', m = m' + 1 := ⟨m - 1, by omega⟩
    obtain rfl : g = r + 1 := by omega
    have b1 : -18446744073709551616 < r + 1 := by omega
    have b2 : r + 1 < 18446744073709551616 := by omega
    refine while_stop m ?_
    simp [t12, I, b1, b2, ev, Sm.ofE, Sm.ofS, nmS, kS, valT, bi2, un1, arS, cmpV, notT, notV, andT, andV, orT, orV, ifV, cmp2, cmp3, cmpS, consA, nilA, bfS, mtS, noA, one, two, bV, outB, boolS, view, viewO, seqS, nilS, thenS, setS, retS, ifS, dropS, raiseS, Out.bind, eqS, ltS, isNS, lenS, isiS, intS, tyOf, binS, addS, subS, mulS, fdivS, modS, powS, ixS, lstS, tupS, newS, asD, okTy, isiB, isBl, exitS, ixN, methS, TyOk, onR, appendS, Pq.setItem, setItS, par2S, par3S, negS, gcS, slS, partS, sliceS]; omega
  | succ d ih =>
    intro g h0 h1 h2 m hm
    obtain ⟨m, rfl⟩ : ∃ m', m = m' + 1 := ⟨m - 1, by omega⟩
    have b1 : -18446744073709551616 < g := by omega
    have b2 : g < 18446744073709551616 := by omega
    by_cases hg : g ≤ r
    · have hc : g * g ≤ n := by have := sq_mono h0 hg; omega
      rw [while_go m (ρ2 := [I n, I (g + 1), f, l, h]) (S2 := S), ih (g + 1) (by omega) (by omega) (by omega) m (by omega)]
      · simp [t12, I, b1, b2, hc, ev, Sm.ofE, Sm.ofS, nmS, kS, valT, bi2, un1, arS, cmpV, notT, notV, andT, andV, orT, orV, ifV, cmp2, cmp3, cmpS, consA, nilA, bfS, mtS, noA, one, two, bV, outB, boolS, view, viewO, seqS, nilS, thenS, setS, retS, ifS, dropS, raiseS, Out.bind, eqS, ltS, isNS, lenS, isiS, intS, tyOf, binS, addS, subS, mulS, fdivS, modS, powS, ixS, lstS, tupS, newS, asD, okTy, isiB, isBl, exitS, ixN, methS, TyOk, onR, appendS, Pq.setItem, setItS, par2S, par3S, negS, gcS, slS, partS, sliceS]
      · simp [d12_b0, I, ev, Sm.ofE, Sm.ofS, nmS, kS, valT, bi2, un1, arS, cmpV, notT, notV, andT, andV, orT, orV, ifV, cmp2, cmp3, cmpS, consA, nilA, bfS, mtS, noA, one, two, bV, outB, boolS, view, viewO, seqS, nilS, thenS, setS, retS, ifS, dropS, raiseS, Out.bind, eqS, ltS, isNS, lenS, isiS, intS, tyOf, binS, addS, subS, mulS, fdivS, modS, powS, ixS, lstS, tupS, newS, asD, okTy, isiB, isBl, exitS, ixN, methS, TyOk, onR, appendS, Pq.setItem, setItS, par2S, par3S, negS, gcS, slS, partS, sliceS]
    · obtain rfl : g = r + 1 := by omega
      refine while_stop m ?_
      simp [t12, I, b1, b2, ev, Sm.ofE, Sm.ofS, nmS, kS, valT, bi2, un1, arS, cmpV, notT, notV, andT, andV, orT, orV, ifV, cmp2, cmp3, cmpS, consA, nilA, bfS, mtS, noA, one, two, bV, outB, boolS, view, viewO, seqS, nilS, thenS, setS, retS, ifS, dropS, raiseS, Out.bind, eqS, ltS, isNS, lenS, isiS, intS, tyOf, binS, addS, subS, mulS, fdivS, modS, powS, ixS, lstS, tupS, newS, asD, okTy, isiB, isBl, exitS, ixN, methS, TyOk, onR, appendS, Pq.setItem, setItS, par2S, par3S, negS, gcS, slS, partS, sliceS]; omega
theorem sq_loop (V : Gv) (n0 : Nat) (S : Sto) (n : Int) : ∀ (d : Nat) (a b : Int) (acc : List D) (h : Option U), 0 ≤ a → b ≤ 40000 → b - a + 1 ≤ d → acc.length + d ≤ 100000 → ∀ m, 2 * d < m →
    ∃ a' b' h', whileL (ev V t12').t ((ev V d12_b1).s n0) m [I n, I b, some (.r S.length), I a, h] (S ++ [.lst acc]) = .ok (.nx [I n, b', some (.r S.length), a', h']) (S ++ [.lst (acc ++ (tp d n a b).map prD)]) := by
  intro d
  induction d with
  | zero =>
    intro a b acc h h0 h1 h2 h3 m hm
    obtain ⟨m, rfl⟩ : ∃ m', m = m' + 1 := ⟨m - 1, by omega⟩
    refine ⟨I a, I b, h, (while_stop m ?_).trans (by simp [tp])⟩
    simp [t12', I, ev, Sm.ofE, Sm.ofS, nmS, kS, valT, bi2, un1, arS, cmpV, notT, notV, andT, andV, orT, orV, ifV, cmp2, cmp3, cmpS, consA, nilA, bfS, mtS, noA, one, two, bV, outB, boolS, view, viewO, seqS, nilS, thenS, setS, retS, ifS, dropS, raiseS, Out.bind, eqS, ltS, isNS, lenS, isiS, intS, tyOf, binS, addS, subS, mulS, fdivS, modS, powS, ixS, lstS, tupS, newS, asD, okTy, isiB, isBl, exitS, ixN, methS, TyOk, onR, appendS, Pq.setItem, setItS, par2S, par3S, negS, gcS, slS, partS, sliceS]; omega
  | succ d ih =>
    intro a b acc h h0 h1 h2 h3 m hm
    obtain ⟨m, rfl⟩ : ∃ m', m = m' + 1 := ⟨m - 1, by omega⟩
    by_cases hg : a ≤ b
    · have b1 : -18446744073709551616 < a := by omega
      have b2 : a < 18446744073709551616 := by omega
      have b3 : -18446744073709551616 < b := by omega
      have b4 : b < 18446744073709551616 := by omega
      have ht : (ev V t12').t [I n, I b, some (.r S.length), I a, h] (S ++ [.lst acc]) = .ok true (S ++ [.lst acc]) := by simp [t12', I, hg, ev, Sm.ofE, Sm.ofS, nmS, kS, valT, bi2, un1, arS, cmpV, notT, notV, andT, andV, orT, orV, ifV, cmp2, cmp3, cmpS, consA, nilA, bfS, mtS, noA, one, two, bV, outB, boolS, view, viewO, seqS, nilS, thenS, setS, retS, ifS, dropS, raiseS, Out.bind, eqS, ltS, isNS, lenS, isiS, intS, tyOf, binS, addS, subS, mulS, fdivS, modS, powS, ixS, lstS, tupS, newS, asD, okTy, isiB, isBl, exitS, ixN, methS, TyOk, onR, appendS, Pq.setItem, setItS, par2S, par3S, negS, gcS, slS, partS, sliceS]
      unfold tp
      rw [if_pos hg]
      by_cases c1 : a * a + b * b < n
      · rw [if_pos c1]
        have c2 : a * a + b * b ≤ n := by omega
        have c3 : ¬ a * a + b * b = n := by omega
        obtain ⟨a', b', h', e⟩ := ih (a + 1) b acc (I (a * a + b * b)) (by omega) h1 (by omega) (by omega) m (by omega)
        refine ⟨a', b', h', ?_⟩
        rw [while_go m ht (ρ2 := [I n, I b, some (.r S.length), I (a + 1), I (a * a + b * b)]) (S2 := S ++ [.lst acc]), e]
        simp [d12_b1, I, b1, b2, b3, b4, c2, c3, ev, Sm.ofE, Sm.ofS, nmS, kS, valT, bi2, un1, arS, cmpV, notT, notV, andT, andV, orT, orV, ifV, cmp2, cmp3, cmpS, consA, nilA, bfS, mtS, noA, one, two, bV, outB, boolS, view, viewO, seqS, nilS, thenS, setS, retS, ifS, dropS, raiseS, Out.bind, eqS, ltS, isNS, lenS, isiS, intS, tyOf, binS, addS, subS, mulS, fdivS, modS, powS, ixS, lstS, tupS, newS, asD, okTy, isiB, isBl, exitS, ixN, methS, TyOk, onR, appendS, Pq.setItem, setItS, par2S, par3S, negS, gcS, slS, partS, sliceS]
      · rw [if_neg c1]
        by_cases c2 : n < a * a + b * b
        · rw [if_pos c2]
          have c3 : ¬ a * a + b * b = n := by omega
          have c4 : ¬ a * a + b * b ≤ n := by omega
          obtain ⟨a', b', h', e⟩ := ih a (b - 1) acc (I (a * a + b * b)) h0 (by omega) (by omega) (by omega) m (by omega)
          refine ⟨a', b', h', ?_⟩
          rw [while_go m ht (ρ2 := [I n, I (b - 1), some (.r S.length), I a, I (a * a + b * b)]) (S2 := S ++ [.lst acc]), e]
          simp [d12_b1, I, b1, b2, b3, b4, c3, c4, ev, Sm.ofE, Sm.ofS, nmS, kS, valT, bi2, un1, arS, cmpV, notT, notV, andT, andV, orT, orV, ifV, cmp2, cmp3, cmpS, consA, nilA, bfS, mtS, noA, one, two, bV, outB, boolS, view, viewO, seqS, nilS, thenS, setS, retS, ifS, dropS, raiseS, Out.bind, eqS, ltS, isNS, lenS, isiS, intS, tyOf, binS, addS, subS, mulS, fdivS, modS, powS, ixS, lstS, tupS, newS, asD, okTy, isiB, isBl, exitS, ixN, methS, TyOk, onR, appendS, Pq.setItem, setItS, par2S, par3S, negS, gcS, slS, partS, sliceS]
        · rw [if_neg c2]
          have c3 : a * a + b * b = n := by omega
          have c4 : a * a + b * b ≤ n := by omega
          have hl : acc.length < 16777216 := by omega
          have go : whileL (ev V t12').t ((ev V d12_b1).s n0) (m + 1) [I n, I b, some (.r S.length), I a, h] (S ++ [.lst acc]) = whileL (ev V t12').t ((ev V d12_b1).s n0) m [I n, I b, some (.r S.length), I (a + 1), I n] (S ++ [.lst (acc ++ [prD (a, b)])]) := by
            refine while_go m ht ?_
            simp [d12_b1, I, b1, b2, b3, b4, c3, hl, cget, cset, prD, ev, Sm.ofE, Sm.ofS, nmS, kS, valT, bi2, un1, arS, cmpV, notT, notV, andT, andV, orT, orV, ifV, cmp2, cmp3, cmpS, consA, nilA, bfS, mtS, noA, one, two, bV, outB, boolS, view, viewO, seqS, nilS, thenS, setS, retS, ifS, dropS, raiseS, Out.bind, eqS, ltS, isNS, lenS, isiS, intS, tyOf, binS, addS, subS, mulS, fdivS, modS, powS, ixS, lstS, tupS, newS, asD, okTy, isiB, isBl, exitS, ixN, methS, TyOk, onR, appendS, Pq.setItem, setItS, par2S, par3S, negS, gcS, slS, partS, sliceS]
          rw [go]
          obtain ⟨m, rfl⟩ : ∃ m', m = m' + 1 := ⟨m - 1, by omega⟩
          by_cases hh : a + 1 ≤ b
          · have d1 : -18446744073709551616 < a + 1 := by omega
            have d2 : a + 1 < 18446744073709551616 := by omega
            have d5 : n < (a + 1) * (a + 1) + b * b := by rw [Int.add_mul, Int.mul_add]; omega
            have d3 : ¬ (a + 1) * (a + 1) + b * b = n := by omega
            have d4 : ¬ (a + 1) * (a + 1) + b * b ≤ n := by omega
            obtain ⟨a', b', h', e⟩ := ih (a + 1) (b - 1) (acc ++ [prD (a, b)]) (I ((a + 1) * (a + 1) + b * b)) (by omega) (by omega) (by omega) (by simp; omega) m (by omega)
            refine ⟨a', b', h', ?_⟩
            rw [while_go m (ρ2 := [I n, I (b - 1), some (.r S.length), I (a + 1), I ((a + 1) * (a + 1) + b * b)]) (S2 := S ++ [.lst (acc ++ [prD (a, b)])]), e]
            · simp
            · simp [t12', I, hh, ev, Sm.ofE, Sm.ofS, nmS, kS, valT, bi2, un1, arS, cmpV, notT, notV, andT, andV, orT, orV, ifV, cmp2, cmp3, cmpS, consA, nilA, bfS, mtS, noA, one, two, bV, outB, boolS, view, viewO, seqS, nilS, thenS, setS, retS, ifS, dropS, raiseS, Out.bind, eqS, ltS, isNS, lenS, isiS, intS, tyOf, binS, addS, subS, mulS, fdivS, modS, powS, ixS, lstS, tupS, newS, asD, okTy, isiB, isBl, exitS, ixN, methS, TyOk, onR, appendS, Pq.setItem, setItS, par2S, par3S, negS, gcS, slS, partS, sliceS]
            · simp [d12_b1, I, d1, d2, b3, b4, d3, d4, ev, Sm.ofE, Sm.ofS, nmS, kS, valT, bi2, un1, arS, cmpV, notT, notV, andT, andV, orT, orV, ifV, cmp2, cmp3, cmpS, consA, nilA, bfS, mtS, noA, one, two, bV, outB, boolS, view, viewO, seqS, nilS, thenS, setS, retS, ifS, dropS, raiseS, Out.bind, eqS, ltS, isNS, lenS, isiS, intS, tyOf, binS, addS, subS, mulS, fdivS, modS, powS, ixS, lstS, tupS, newS, asD, okTy, isiB, isBl, exitS, ixN, methS, TyOk, onR, appendS, Pq.setItem, setItS, par2S, par3S, negS, gcS, slS, partS, sliceS]
          · rw [tp_nil _ _ _ _ (by omega)]
            refine ⟨I (a + 1), I b, I n, (while_stop m ?_).trans (by simp)⟩
            simp [t12', I, ev, Sm.ofE, Sm.ofS, nmS, kS, valT, bi2, un1, arS, cmpV, notT, notV, andT, andV, orT, orV, ifV, cmp2, cmp3, cmpS, consA, nilA, bfS, mtS, noA, one, two, bV, outB, boolS, view, viewO, seqS, nilS, thenS, setS, retS, ifS, dropS, raiseS, Out.bind, eqS, ltS, isNS, lenS, isiS, intS, tyOf, binS, addS, subS, mulS, fdivS, modS, powS, ixS, lstS, tupS, newS, asD, okTy, isiB, isBl, exitS, ixN, methS, TyOk, onR, appendS, Pq.setItem, setItS, par2S, par3S, negS, gcS, slS, partS, sliceS]; omega
    · rw [tp_nil _ _ _ _ (by omega)]
      refine ⟨I a, I b, h, (while_stop m ?_).trans (by simp)⟩
      simp [t12', I, ev, Sm.ofE, Sm.ofS, nmS, kS, valT, bi2, un1, arS, cmpV, notT, notV, andT, andV, orT, orV, ifV, cmp2, cmp3, cmpS, consA, nilA, bfS, mtS, noA, one, two, bV, outB, boolS, view, viewO, seqS, nilS, thenS, setS, retS, ifS, dropS, raiseS, Out.bind, eqS, ltS, isNS, lenS, isiS, intS, tyOf, binS, addS, subS, mulS, fdivS, modS, powS, ixS, lstS, tupS, newS, asD, okTy, isiB, isBl, exitS, ixN, methS, TyOk, onR, appendS, Pq.setItem, setItS, par2S, par3S, negS, gcS, slS, partS, sliceS]; omega
theorem squares_ok (k : Nat) (S : Sto) (n r : Int) (h0 : 0 ≤ n) (h1 : n ≤ 1000000000) (r0 : 0 ≤ r) (r1 : r * r ≤ n) (r2 : n < (r + 1) * (r + 1)) : cl (k+1) 11 S [.d (.int n)] = .ok (.r S.length) (S ++ [.lst ((tp (r.toNat + 1) n 0 r).map prD)]) := by
  have hs := sq_small r0 r1 h1
  have e1 := high_loop ⟨cl k, sub, res⟩ S.length (S ++ [.lst []]) n r (some (.r S.length)) (I 0) none (by omega) r1 r2 (r.toNat + 1) 0 (by omega) (by omega) (by omega) FUEL (by unfold FUEL; omega)
  obtain ⟨a', b', h', e2⟩ := sq_loop ⟨cl k, sub, res⟩ S.length S n (r.toNat + 1) 0 r [] none (by omega) (by omega) (by omega) (by simp; omega) FUEL (by unfold FUEL; omega)
  have e1' : (ev ⟨cl k, sub, res⟩ d12_l0).s S.length [I n, I 0, some (.r S.length), I 0, none] (S ++ [.lst []]) = .ok (.nx [I n, I (r + 1), some (.r S.length), I 0, none]) (S ++ [.lst []]) := e1
  have e2' : (ev ⟨cl k, sub, res⟩ d12_l1).s S.length [I n, I r, some (.r S.length), I 0, none] (S ++ [.lst []]) = .ok (.nx [I n, b', some (.r S.length), a', h']) (S ++ [.lst ([] ++ (tp (r.toNat + 1) n 0 r).map prD)]) := e2
  show fnS 1 5 (fun n => (ev ⟨cl k, sub, res⟩ d12.body).s n) S _ = _
  have hr : r + 1 - 1 = r := by omega
  simp [I] at e1' e2'
  simp [fnS, d12, e1', e2', hr, ev, Sm.ofE, Sm.ofS, nmS, kS, valT, bi2, un1, arS, cmpV, notT, notV, andT, andV, orT, orV, ifV, cmp2, cmp3, cmpS, consA, nilA, bfS, mtS, noA, one, two, bV, outB, boolS, view, viewO, seqS, nilS, thenS, setS, retS, ifS, dropS, raiseS, Out.bind, eqS, ltS, isNS, lenS, isiS, intS, tyOf, binS, addS, subS, mulS, fdivS, modS, powS, ixS, lstS, tupS, newS, asD, okTy, isiB, isBl, exitS, ixN, methS, TyOk, onR, appendS, Pq.setItem, setItS, par2S, par3S, negS, gcS, slS, partS, sliceS]
/-- what a number's ways are -/
theorem ways_all (n : Int) (h0 : 0 ≤ n) (h1 : n ≤ 1000000000) : ∃ l : List (Int × Int), l.length ≤ 40000 ∧ (∀ k S, cl (k+1) 11 S [.d (.int n)] = .ok (.r S.length) (S ++ [.lst (l.map prD)])) ∧ ∀ k S, cl (k+5) 14 S [.d (.int n)] = .ok (.r S.length) (S ++ [.lst (l.map prD)]) := by
  obtain ⟨r, c1, c2, c3, c4, _⟩ := root_ok 0 [] n h0 h1
  have hs := sq_small c1 c3 h1
  refine ⟨tp (r.toNat + 1) n 0 r, by have := tp_len (r.toNat + 1) n 0 r; omega, fun k S => squares_ok k S n r h0 h1 c1 c3 c4, fun k S => ?_⟩
  have e1 := ways_ok (k+1) S n r h0 h1 c1 c3 c4
  have e0 := must_from_int k S n 0 1000000000
  rw [if_pos ⟨h0, h1⟩] at e0
  have e2 : cl (k+4) 5 S [.d (.int n)] = .ok (.r S.length) (S ++ [.lst ((tp (r.toNat + 1) n 0 r).map prD)]) := by
    show fnS 1 1 (fun n => (ev ⟨cl (k+3), sub, res⟩ d5.body).s n) S _ = _
    simp [fnS, d5, e0, e1, ev, Sm.ofE, Sm.ofS, nmS, kS, valT, bi2, un1, arS, cmpV, notT, notV, andT, andV, orT, orV, ifV, cmp2, cmp3, cmpS, consA, nilA, bfS, mtS, noA, one, two, bV, outB, boolS, view, viewO, seqS, nilS, thenS, setS, retS, ifS, dropS, raiseS, Out.bind, eqS, ltS, isNS, lenS, isiS, intS, tyOf, binS, addS, subS, mulS, fdivS, modS, powS, ixS, lstS, tupS, newS, asD, okTy, isiB, isBl, exitS, ixN, methS, TyOk, onR, appendS, Pq.setItem, setItS, par2S, par3S, negS, gcS, slS, partS, sliceS]
  show fnS 1 2 (fun n => (ev ⟨cl (k+4), sub, res⟩ d15.body).s n) S _ = _
  simp [fnS, d15, e2, tryS, ev, Sm.ofE, Sm.ofS, nmS, kS, valT, bi2, un1, arS, cmpV, notT, notV, andT, andV, orT, orV, ifV, cmp2, cmp3, cmpS, consA, nilA, bfS, mtS, noA, one, two, bV, outB, boolS, view, viewO, seqS, nilS, thenS, setS, retS, ifS, dropS, raiseS, Out.bind, eqS, ltS, isNS, lenS, isiS, intS, tyOf, binS, addS, subS, mulS, fdivS, modS, powS, ixS, lstS, tupS, newS, asD, okTy, isiB, isBl, exitS, ixN, methS, TyOk, onR, appendS, Pq.setItem, setItS, par2S, par3S, negS, gcS, slS, partS, sliceS]
theorem came_odd (k : Nat) (S : Sto) (d : D) (h : odd d = true ∨ ∃ i, d = .int i ∧ ¬ (0 ≤ i ∧ i ≤ 1000000000)) : cl (k+5) 14 S [.d d] = .ok (.d (.str "number")) S := by
  have e0 : cl (k+3) 2 S [.d d, .d (.int 0), .d (.int 1000000000)] = .exc ⟨3, []⟩ S := by
    rcases h with h | ⟨i, rfl, h⟩
    · exact must_from_odd k S d 0 1000000000 h
    · have e := must_from_int k S i 0 1000000000
      rw [if_neg h] at e
      exact e
  have e2 : cl (k+4) 5 S [.d d] = .exc ⟨3, []⟩ S := by
    show fnS 1 1 (fun n => (ev ⟨cl (k+3), sub, res⟩ d5.body).s n) S _ = _
    simp [fnS, d5, e0, ev, Sm.ofE, Sm.ofS, nmS, kS, valT, bi2, un1, arS, cmpV, notT, notV, andT, andV, orT, orV, ifV, cmp2, cmp3, cmpS, consA, nilA, bfS, mtS, noA, one, two, bV, outB, boolS, view, viewO, seqS, nilS, thenS, setS, retS, ifS, dropS, raiseS, Out.bind, eqS, ltS, isNS, lenS, isiS, intS, tyOf, binS, addS, subS, mulS, fdivS, modS, powS, ixS, lstS, tupS, newS, asD, okTy, isiB, isBl, exitS, ixN, methS, TyOk, onR, appendS, Pq.setItem, setItS, par2S, par3S, negS, gcS, slS, partS, sliceS]
  show fnS 1 2 (fun n => (ev ⟨cl (k+4), sub, res⟩ d15.body).s n) S _ = _
  simp [fnS, d15, e2, tryS, res, ev, Sm.ofE, Sm.ofS, nmS, kS, valT, bi2, un1, arS, cmpV, notT, notV, andT, andV, orT, orV, ifV, cmp2, cmp3, cmpS, consA, nilA, bfS, mtS, noA, one, two, bV, outB, boolS, view, viewO, seqS, nilS, thenS, setS, retS, ifS, dropS, raiseS, Out.bind, eqS, ltS, isNS, lenS, isiS, intS, tyOf, binS, addS, subS, mulS, fdivS, modS, powS, ixS, lstS, tupS, newS, asD, okTy, isiB, isBl, exitS, ixN, methS, TyOk, onR, appendS, Pq.setItem, setItS, par2S, par3S, negS, gcS, slS, partS, sliceS]
theorem eq_bl (b c : Bool) : eqd (.bl b) (.bl c) = (b == c) := by cases b <;> cases c <;> rfl
theorem same_int (k : Nat) (S : Sto) (i : Int) : cl (k+1) 9 S [.d (.int i), .d (.int i)] = .ok (.d (.bl true)) S := by
  show fnS 2 4 (fun n => (ev ⟨cl k, sub, res⟩ d9.body).s n) S _ = _
  simp [fnS, d9, can, dep, eq_bl, ev, Sm.ofE, Sm.ofS, nmS, kS, valT, bi2, un1, arS, cmpV, notT, notV, andT, andV, orT, orV, ifV, cmp2, cmp3, cmpS, consA, nilA, bfS, mtS, noA, one, two, bV, outB, boolS, view, viewO, seqS, nilS, thenS, setS, retS, ifS, dropS, raiseS, Out.bind, eqS, ltS, isNS, lenS, isiS, intS, tyOf, binS, addS, subS, mulS, fdivS, modS, powS, ixS, lstS, tupS, newS, asD, okTy, isiB, isBl, exitS, ixN, methS, TyOk, onR, appendS, Pq.setItem, setItS, par2S, par3S, negS, gcS, slS, partS, sliceS]
theorem same_pair (k : Nat) (S : Sto) (p : Int × Int) : cl (k+2) 9 S [.d (prD p), .d (prD p)] = .ok (.d (.bl true)) S := by
  have e : (ev ⟨cl (k+1), sub, res⟩ d9_l0).s S.length [some (.d (prD p)), some (.d (prD p)), none, none] S = .ok (.nx [some (.d (prD p)), some (.d (prD p)), I p.2, I p.2]) S := by
    simp [d9_l0, d9_b0, prD, same_int, forZ, forL, zipD, tupG, consG, nilG, lenT, I, ev, Sm.ofE, Sm.ofS, nmS, kS, valT, bi2, un1, arS, cmpV, notT, notV, andT, andV, orT, orV, ifV, cmp2, cmp3, cmpS, consA, nilA, bfS, mtS, noA, one, two, bV, outB, boolS, view, viewO, seqS, nilS, thenS, setS, retS, ifS, dropS, raiseS, Out.bind, eqS, ltS, isNS, lenS, isiS, intS, tyOf, binS, addS, subS, mulS, fdivS, modS, powS, ixS, lstS, tupS, newS, asD, okTy, isiB, isBl, exitS, ixN, methS, TyOk, onR, appendS, Pq.setItem, setItS, par2S, par3S, negS, gcS, slS, partS, sliceS]
  show fnS 2 4 (fun n => (ev ⟨cl (k+1), sub, res⟩ d9.body).s n) S _ = _
  simp [prD, I] at e
  simp [fnS, d9, e, prD, can, dep, eq_bl, ev, Sm.ofE, Sm.ofS, nmS, kS, valT, bi2, un1, arS, cmpV, notT, notV, andT, andV, orT, orV, ifV, cmp2, cmp3, cmpS, consA, nilA, bfS, mtS, noA, one, two, bV, outB, boolS, view, viewO, seqS, nilS, thenS, setS, retS, ifS, dropS, raiseS, Out.bind, eqS, ltS, isNS, lenS, isiS, intS, tyOf, binS, addS, subS, mulS, fdivS, modS, powS, ixS, lstS, tupS, newS, asD, okTy, isiB, isBl, exitS, ixN, methS, TyOk, onR, appendS, Pq.setItem, setItS, par2S, par3S, negS, gcS, slS, partS, sliceS]
theorem zip_loop (k n0 : Nat) (S : Sto) (l : List (Int × Int)) (x y : Nat) (hx : x < n0) (hy : y < n0) (ex : S[x]? = some (.lst (l.map prD))) (ey : S[y]? = some (.lst (l.map prD))) : ∀ (m i : Nat) (u v : Option U), l.length ≤ m + i →
    ∃ u' v', zipR n0 (.r x) (.r y) (ev ⟨cl (k+2), sub, res⟩ (.gtup (.cons (.gnm 2) (.cons (.gnm 3) .nil)))).g ((ev ⟨cl (k+2), sub, res⟩ d9_b0).s n0) (m+1) i [some (.r x), some (.r y), u, v] S = .ok (.nx [some (.r x), some (.r y), u', v']) S := by
  intro m
  have gx : getZ n0 S (.r x) = some (l.map prD) := by simp [getZ, hx, ex]
  have gy : getZ n0 S (.r y) = some (l.map prD) := by simp [getZ, hy, ey]
  induction m with
  | zero =>
    intro i u v h
    have hg : (l.map prD)[i]? = none := by simp; omega
    refine ⟨u, v, ?_⟩
    simp only [zipR, gx, gy, hg]
  | succ m ih =>
    intro i u v h
    by_cases hi : i < l.length
    · have hg : (l.map prD)[i]? = some (prD l[i]) := by simp [hi]
      obtain ⟨u', v', e⟩ := ih (i + 1) (some (.d (prD l[i]))) (some (.d (prD l[i]))) (by omega)
      refine ⟨u', v', ?_⟩
      have hb : (ev ⟨cl (k+2), sub, res⟩ d9_b0).s n0 [some (.r x), some (.r y), some (.d (prD l[i])), some (.d (prD l[i]))] S = .ok (.nx [some (.r x), some (.r y), some (.d (prD l[i])), some (.d (prD l[i]))]) S := by
        simp [d9_b0, same_pair, ev, Sm.ofE, Sm.ofS, nmS, kS, valT, bi2, un1, arS, cmpV, notT, notV, andT, andV, orT, orV, ifV, cmp2, cmp3, cmpS, consA, nilA, bfS, mtS, noA, one, two, bV, outB, boolS, view, viewO, seqS, nilS, thenS, setS, retS, ifS, dropS, raiseS, Out.bind, eqS, ltS, isNS, lenS, isiS, intS, tyOf, binS, addS, subS, mulS, fdivS, modS, powS, ixS, lstS, tupS, newS, asD, okTy, isiB, isBl, exitS, ixN, methS, TyOk, onR, appendS, Pq.setItem, setItS, par2S, par3S, negS, gcS, slS, partS, sliceS]
      have ht : (ev ⟨cl (k+2), sub, res⟩ (.gtup (.cons (.gnm 2) (.cons (.gnm 3) .nil)))).g (.d (.tup [prD l[i], prD l[i]])) [some (.r x), some (.r y), u, v] = some [some (.r x), some (.r y), some (.d (prD l[i])), some (.d (prD l[i]))] := by
        simp [tupG, consG, nilG, lenT, ev, Sm.ofE, Sm.ofS, nmS, kS, valT, bi2, un1, arS, cmpV, notT, notV, andT, andV, orT, orV, ifV, cmp2, cmp3, cmpS, consA, nilA, bfS, mtS, noA, one, two, bV, outB, boolS, view, viewO, seqS, nilS, thenS, setS, retS, ifS, dropS, raiseS, Out.bind, eqS, ltS, isNS, lenS, isiS, intS, tyOf, binS, addS, subS, mulS, fdivS, modS, powS, ixS, lstS, tupS, newS, asD, okTy, isiB, isBl, exitS, ixN, methS, TyOk, onR, appendS, Pq.setItem, setItS, par2S, par3S, negS, gcS, slS, partS, sliceS]
      rw [zipR]
      simp only [gx, gy, hg, ht, hb]
      exact e
    · have hg : (l.map prD)[i]? = none := by simp; omega
      refine ⟨u, v, ?_⟩
      rw [zipR]
      simp only [gx, gy, hg]
theorem getz_ok {n0 x : Nat} {S : Sto} {xs : List D} (hx : x < n0) (ex : S[x]? = some (.lst xs)) : getZ n0 S (.r x) = some xs := by
  simp only [getZ, if_pos hx, ex]
theorem same_list (k : Nat) (S : Sto) (l : List (Int × Int)) (x y : Nat) (hx : x < S.length) (hy : y < S.length) (ex : S[x]? = some (.lst (l.map prD))) (ey : S[y]? = some (.lst (l.map prD))) (hl : l.length ≤ 40000) : cl (k+3) 9 S [.r x, .r y] = .ok (.d (.bl true)) S := by
  obtain ⟨u', v', e⟩ := zip_loop k S.length S l x y hx hy ex ey l.length 0 none none (by omega)
  have gx : getZ S.length S (.r x) = some (l.map prD) := getz_ok hx ex
  have gy : getZ S.length S (.r y) = some (l.map prD) := getz_ok hy ey
  have e1 : (ev ⟨cl (k+2), sub, res⟩ d9_l0).s S.length [some (.r x), some (.r y), none, none] S = .ok (.nx [some (.r x), some (.r y), u', v']) S := by
    show (match getZ S.length S (.r x), getZ S.length S (.r y) with | some xs, some _ => zipR S.length (.r x) (.r y) _ _ (xs.length + 1) 0 _ S | _, _ => .bad : Out Fl) = _
    simp only [gx, gy, List.length_map]
    exact e
  show fnS 2 4 (fun n => (ev ⟨cl (k+2), sub, res⟩ d9.body).s n) S _ = _
  have hl2 : l.length ≤ 16777216 := by omega
  simp [fnS, d9, e1, ex, ey, can, dep, eq_bl, hl2, ev, Sm.ofE, Sm.ofS, nmS, kS, valT, bi2, un1, arS, cmpV, notT, notV, andT, andV, orT, orV, ifV, cmp2, cmp3, cmpS, consA, nilA, bfS, mtS, noA, one, two, bV, outB, boolS, view, viewO, seqS, nilS, thenS, setS, retS, ifS, dropS, raiseS, Out.bind, eqS, ltS, isNS, lenS, isiS, intS, tyOf, binS, addS, subS, mulS, fdivS, modS, powS, ixS, lstS, tupS, newS, asD, okTy, isiB, isBl, exitS, ixN, methS, TyOk, onR, appendS, Pq.setItem, setItS, par2S, par3S, negS, gcS, slS, partS, sliceS]
abbrev t13 : T := .cmp .LtE (.bin .Mult (.nm 1) (.nm 1)) (.nm 0)
theorem no_part : ∀ p : Nat, p < 142 → 2 ≤ p → 20011 % p ≠ 0 := by decide +kernel
theorem no_partI (p : Int) (h : 2 ≤ p) (h2 : p < 142) : ¬ (20011 : Int) % p = 0 := by
  obtain ⟨q, rfl⟩ : ∃ q : Nat, p = q := ⟨p.toNat, by omega⟩
  have := no_part q (by omega) (by omega)
  intro e
  exact this (by exact_mod_cast e)
theorem prime_loop (V : Gv) (n0 : Nat) (S : Sto) (n : Int) (hn : n ≤ 20011) : ∀ (d : Nat) (p : Int), 2 ≤ p → p ≤ 142 → 142 - p ≤ d → ∀ m, d < m →
    (n ≠ 20011 ∧ whileL (ev V t13).t ((ev V d13_b0).s n0) m [I n, I p] S = .ok (.rt (.d (.bl false))) S) ∨ ∃ p', whileL (ev V t13).t ((ev V d13_b0).s n0) m [I n, I p] S = .ok (.nx [I n, I p']) S := by
  intro d
  induction d with
  | zero =>
    intro p h0 h1 h2 m hm
    obtain ⟨m, rfl⟩ : ∃ m', m = m' + 1 := ⟨m - 1, by omega⟩
    obtain rfl : p = 142 := by omega
    refine .inr ⟨142, while_stop m ?_⟩
    simp [t13, I, ev, Sm.ofE, Sm.ofS, nmS, kS, valT, bi2, un1, arS, cmpV, notT, notV, andT, andV, orT, orV, ifV, cmp2, cmp3, cmpS, consA, nilA, bfS, mtS, noA, one, two, bV, outB, boolS, view, viewO, seqS, nilS, thenS, setS, retS, ifS, dropS, raiseS, Out.bind, eqS, ltS, isNS, lenS, isiS, intS, tyOf, binS, addS, subS, mulS, fdivS, modS, powS, ixS, lstS, tupS, newS, asD, okTy, isiB, isBl, exitS, ixN, methS, TyOk, onR, appendS, Pq.setItem, setItS, par2S, par3S, negS, gcS, slS, partS, sliceS]; omega
  | succ d ih =>
    intro p h0 h1 h2 m hm
    obtain ⟨m, rfl⟩ : ∃ m', m = m' + 1 := ⟨m - 1, by omega⟩
    have b1 : -18446744073709551616 < p := by omega
    have b2 : p < 18446744073709551616 := by omega
    have b3 : 0 < p := by omega
    by_cases hc : p * p ≤ n
    · have hp : p < 142 := by
        rcases Int.lt_or_le p 142 with h | h
        · exact h
        · have := sq_mono (a := 142) (b := p) (by omega) h; omega
      have ht : (ev V t13).t [I n, I p] S = .ok true S := by simp [t13, I, b1, b2, hc, ev, Sm.ofE, Sm.ofS, nmS, kS, valT, bi2, un1, arS, cmpV, notT, notV, andT, andV, orT, orV, ifV, cmp2, cmp3, cmpS, consA, nilA, bfS, mtS, noA, one, two, bV, outB, boolS, view, viewO, seqS, nilS, thenS, setS, retS, ifS, dropS, raiseS, Out.bind, eqS, ltS, isNS, lenS, isiS, intS, tyOf, binS, addS, subS, mulS, fdivS, modS, powS, ixS, lstS, tupS, newS, asD, okTy, isiB, isBl, exitS, ixN, methS, TyOk, onR, appendS, Pq.setItem, setItS, par2S, par3S, negS, gcS, slS, partS, sliceS]
      by_cases hz : n % p = 0
      · refine .inl ⟨fun e => ?_, while_ret m ht ?_⟩
        · subst e; exact no_partI p h0 hp hz
        · simp [d13_b0, I, b3, hz, ev, Sm.ofE, Sm.ofS, nmS, kS, valT, bi2, un1, arS, cmpV, notT, notV, andT, andV, orT, orV, ifV, cmp2, cmp3, cmpS, consA, nilA, bfS, mtS, noA, one, two, bV, outB, boolS, view, viewO, seqS, nilS, thenS, setS, retS, ifS, dropS, raiseS, Out.bind, eqS, ltS, isNS, lenS, isiS, intS, tyOf, binS, addS, subS, mulS, fdivS, modS, powS, ixS, lstS, tupS, newS, asD, okTy, isiB, isBl, exitS, ixN, methS, TyOk, onR, appendS, Pq.setItem, setItS, par2S, par3S, negS, gcS, slS, partS, sliceS]
      · have go : whileL (ev V t13).t ((ev V d13_b0).s n0) (m + 1) [I n, I p] S = whileL (ev V t13).t ((ev V d13_b0).s n0) m [I n, I (p + 1)] S := by
          refine while_go m ht ?_
          simp [d13_b0, I, b3, hz, ev, Sm.ofE, Sm.ofS, nmS, kS, valT, bi2, un1, arS, cmpV, notT, notV, andT, andV, orT, orV, ifV, cmp2, cmp3, cmpS, consA, nilA, bfS, mtS, noA, one, two, bV, outB, boolS, view, viewO, seqS, nilS, thenS, setS, retS, ifS, dropS, raiseS, Out.bind, eqS, ltS, isNS, lenS, isiS, intS, tyOf, binS, addS, subS, mulS, fdivS, modS, powS, ixS, lstS, tupS, newS, asD, okTy, isiB, isBl, exitS, ixN, methS, TyOk, onR, appendS, Pq.setItem, setItS, par2S, par3S, negS, gcS, slS, partS, sliceS]
        rw [go]
        exact ih (p + 1) (by omega) (by omega) (by omega) m (by omega)
    · refine .inr ⟨p, while_stop m ?_⟩
      simp [t13, I, b1, b2, ev, Sm.ofE, Sm.ofS, nmS, kS, valT, bi2, un1, arS, cmpV, notT, notV, andT, andV, orT, orV, ifV, cmp2, cmp3, cmpS, consA, nilA, bfS, mtS, noA, one, two, bV, outB, boolS, view, viewO, seqS, nilS, thenS, setS, retS, ifS, dropS, raiseS, Out.bind, eqS, ltS, isNS, lenS, isiS, intS, tyOf, binS, addS, subS, mulS, fdivS, modS, powS, ixS, lstS, tupS, newS, asD, okTy, isiB, isBl, exitS, ixN, methS, TyOk, onR, appendS, Pq.setItem, setItS, par2S, par3S, negS, gcS, slS, partS, sliceS]; omega
theorem prime_ok (k : Nat) (S : Sto) (n : Int) (h0 : 2 ≤ n) (h1 : n ≤ 20011) : ∃ b, cl (k+1) 12 S [.d (.int n)] = .ok (.d (.bl b)) S ∧ (n = 20011 → b = true) := by
  have n1 : 1 < n := by omega
  rcases prime_loop ⟨cl k, sub, res⟩ S.length S n h1 200 2 (by omega) (by omega) (by omega) FUEL (by unfold FUEL; omega) with ⟨hne, e⟩ | ⟨p', e⟩
  · refine ⟨false, ?_, fun h => absurd h hne⟩
    have e' : (ev ⟨cl k, sub, res⟩ d13_l0).s S.length [I n, I 2] S = .ok (.rt (.d (.bl false))) S := e
    show fnS 1 2 (fun n => (ev ⟨cl k, sub, res⟩ d13.body).s n) S _ = _
    simp [I] at e'
    simp [fnS, d13, e', ev, Sm.ofE, Sm.ofS, nmS, kS, valT, bi2, un1, arS, cmpV, notT, notV, andT, andV, orT, orV, ifV, cmp2, cmp3, cmpS, consA, nilA, bfS, mtS, noA, one, two, bV, outB, boolS, view, viewO, seqS, nilS, thenS, setS, retS, ifS, dropS, raiseS, Out.bind, eqS, ltS, isNS, lenS, isiS, intS, tyOf, binS, addS, subS, mulS, fdivS, modS, powS, ixS, lstS, tupS, newS, asD, okTy, isiB, isBl, exitS, ixN, methS, TyOk, onR, appendS, Pq.setItem, setItS, par2S, par3S, negS, gcS, slS, partS, sliceS]
  · refine ⟨true, ?_, fun _ => rfl⟩
    have e' : (ev ⟨cl k, sub, res⟩ d13_l0).s S.length [I n, I 2] S = .ok (.nx [I n, I p']) S := e
    show fnS 1 2 (fun n => (ev ⟨cl k, sub, res⟩ d13.body).s n) S _ = _
    simp [I] at e'
    simp [fnS, d13, e', n1, ev, Sm.ofE, Sm.ofS, nmS, kS, valT, bi2, un1, arS, cmpV, notT, notV, andT, andV, orT, orV, ifV, cmp2, cmp3, cmpS, consA, nilA, bfS, mtS, noA, one, two, bV, outB, boolS, view, viewO, seqS, nilS, thenS, setS, retS, ifS, dropS, raiseS, Out.bind, eqS, ltS, isNS, lenS, isiS, intS, tyOf, binS, addS, subS, mulS, fdivS, modS, powS, ixS, lstS, tupS, newS, asD, okTy, isiB, isBl, exitS, ixN, methS, TyOk, onR, appendS, Pq.setItem, setItS, par2S, par3S, negS, gcS, slS, partS, sliceS]
theorem draw0 (k : Nat) (T : Sto) (p f m : Int) (hm : 0 < m) (hm2 : m < 1000000) : ∃ r p', 0 ≤ r ∧ r < m ∧ cl (k+1) 8 (penO p f :: T) [.r 0, .d (.int m)] = .ok (.d (.int r)) (penO p' f :: T) := by
  obtain ⟨r, p', h1, h2, e⟩ := draw_ok k (penO p f :: T) 0 p f m rfl hm hm2
  exact ⟨r, p', h1, h2, e⟩
abbrev t14 : T := .not (.call 12 (.cons (.nm 5) .nil))
theorem next_loop (k n0 : Nat) (S : Sto) (a b c d e : Option U) : ∀ (dd : Nat) (q : Int), 2 ≤ q → q ≤ 20011 → 20011 - q ≤ dd → ∀ m, dd < m →
    ∃ q', 2 ≤ q' ∧ q' ≤ 20011 ∧ whileL (ev ⟨cl (k+1), sub, res⟩ t14).t ((ev ⟨cl (k+1), sub, res⟩ d14_b1).s n0) m [a, b, c, d, e, I q] S = .ok (.nx [a, b, c, d, e, I q']) S := by
  intro dd
  induction dd with
  | zero =>
    intro q h0 h1 h2 m hm
    obtain ⟨m, rfl⟩ : ∃ m', m = m' + 1 := ⟨m - 1, by omega⟩
    obtain ⟨z, e1, e2⟩ := prime_ok k S q h0 h1
    have ez := e2 (by omega)
    subst ez
    refine ⟨q, h0, h1, while_stop m ?_⟩
    simp [t14, I, e1, ev, Sm.ofE, Sm.ofS, nmS, kS, valT, bi2, un1, arS, cmpV, notT, notV, andT, andV, orT, orV, ifV, cmp2, cmp3, cmpS, consA, nilA, bfS, mtS, noA, one, two, bV, outB, boolS, view, viewO, seqS, nilS, thenS, setS, retS, ifS, dropS, raiseS, Out.bind, eqS, ltS, isNS, lenS, isiS, intS, tyOf, binS, addS, subS, mulS, fdivS, modS, powS, ixS, lstS, tupS, newS, asD, okTy, isiB, isBl, exitS, ixN, methS, TyOk, onR, appendS, Pq.setItem, setItS, par2S, par3S, negS, gcS, slS, partS, sliceS]
  | succ dd ih =>
    intro q h0 h1 h2 m hm
    obtain ⟨m, rfl⟩ : ∃ m', m = m' + 1 := ⟨m - 1, by omega⟩
    obtain ⟨z, e1, e2⟩ := prime_ok k S q h0 h1
    cases z with
    | true =>
      refine ⟨q, h0, h1, while_stop m ?_⟩
      simp [t14, I, e1, ev, Sm.ofE, Sm.ofS, nmS, kS, valT, bi2, un1, arS, cmpV, notT, notV, andT, andV, orT, orV, ifV, cmp2, cmp3, cmpS, consA, nilA, bfS, mtS, noA, one, two, bV, outB, boolS, view, viewO, seqS, nilS, thenS, setS, retS, ifS, dropS, raiseS, Out.bind, eqS, ltS, isNS, lenS, isiS, intS, tyOf, binS, addS, subS, mulS, fdivS, modS, powS, ixS, lstS, tupS, newS, asD, okTy, isiB, isBl, exitS, ixN, methS, TyOk, onR, appendS, Pq.setItem, setItS, par2S, par3S, negS, gcS, slS, partS, sliceS]
    | false =>
      have hq : q ≠ 20011 := fun h => by have := e2 h; cases this
      obtain ⟨q', c1, c2, e3⟩ := ih (q + 1) (by omega) (by omega) (by omega) m (by omega)
      refine ⟨q', c1, c2, ?_⟩
      rw [while_go m (ρ2 := [a, b, c, d, e, I (q + 1)]) (S2 := S), e3]
      · simp [t14, I, e1, ev, Sm.ofE, Sm.ofS, nmS, kS, valT, bi2, un1, arS, cmpV, notT, notV, andT, andV, orT, orV, ifV, cmp2, cmp3, cmpS, consA, nilA, bfS, mtS, noA, one, two, bV, outB, boolS, view, viewO, seqS, nilS, thenS, setS, retS, ifS, dropS, raiseS, Out.bind, eqS, ltS, isNS, lenS, isiS, intS, tyOf, binS, addS, subS, mulS, fdivS, modS, powS, ixS, lstS, tupS, newS, asD, okTy, isiB, isBl, exitS, ixN, methS, TyOk, onR, appendS, Pq.setItem, setItS, par2S, par3S, negS, gcS, slS, partS, sliceS]
      · simp [d14_b1, I, ev, Sm.ofE, Sm.ofS, nmS, kS, valT, bi2, un1, arS, cmpV, notT, notV, andT, andV, orT, orV, ifV, cmp2, cmp3, cmpS, consA, nilA, bfS, mtS, noA, one, two, bV, outB, boolS, view, viewO, seqS, nilS, thenS, setS, retS, ifS, dropS, raiseS, Out.bind, eqS, ltS, isNS, lenS, isiS, intS, tyOf, binS, addS, subS, mulS, fdivS, modS, powS, ixS, lstS, tupS, newS, asD, okTy, isiB, isBl, exitS, ixN, methS, TyOk, onR, appendS, Pq.setItem, setItS, par2S, par3S, negS, gcS, slS, partS, sliceS]
def AllI (kvs : List (D × D)) : Prop := ∀ p ∈ kvs, ∃ i, p.2 = .int i
theorem look_int {kvs : List (D × D)} (h : AllI kvs) (q : Key) : ∃ i, (lookD kvs q).getD (.int 0) = .int i := by
  unfold lookD
  cases e : kvs.find? fun p : D × D => decide (Pq.keyOf p.1 = some q) with
  | none => exact ⟨0, by simp⟩
  | some p => obtain ⟨i, hi⟩ := h p (List.mem_of_find?_eq_some e); exact ⟨i, by simp [hi]⟩
  --| some p => exact h p (List.mem_of_find?_eq_some e)
theorem put_all {kvs : List (D × D)} (h : AllI kvs) (q : Key) (i : Int) : AllI (putD kvs q (.int i)) := by
  unfold putD
  split
  · intro p hp
    obtain ⟨r, hr, rfl⟩ := List.mem_map.mp hp
    split
    · exact ⟨i, rfl⟩
    · exact h r hr
  · intro p hp
    rcases List.mem_append.mp hp with hp | hp
    · exact h p hp
    · simp at hp; subst hp; exact ⟨i, rfl⟩
theorem put_len {kvs : List (D × D)} (q : Key) (x : D) : (putD kvs q x).length ≤ kvs.length + 1 := by
  unfold putD
  split <;> simp
abbrev E14 (turn : Option U) (found : Int) (prime : Option U) : Ev := [some (.r 0), I 1000000, turn, I found, some (.r 1), prime]
abbrev lp14 : T := (.lst (.cons (.int 2) (.cons (.int 3) (.cons (.int 5) (.cons (.int 5) (.cons (.int 7) (.cons (.int 13) (.cons (.int 17) (.cons (.int 29) (.cons (.int 101) (.cons (.int 9973) .nil)))))))))))
theorem at_mem {α : Type} (xs : List α) (r : Int) (h0 : 0 ≤ r) (h1 : r < xs.length) : ∃ d, d ∈ xs ∧ atI xs r = some d := by
  obtain ⟨q, rfl⟩ : ∃ q : Nat, r = q := ⟨r.toNat, by omega⟩
  have hq : q < xs.length := by omega
  exact ⟨xs[q], List.getElem_mem hq, atI_nat (List.getElem?_eq_getElem hq)⟩
theorem seq_cut {V : Gv} {n : Nat} {A B Cs : T} {ρ ρ' : Ev} {S S' : Sto} (h : (ev V (.cons A (.cons B .nil))).s n ρ S = .ok (.nx ρ') S') : (ev V (.cons A (.cons B Cs))).s n ρ S = (ev V Cs).s n ρ' S' := by
  have h : thenS ((ev V A).s n ρ S) (fun ρ S => thenS ((ev V B).s n ρ S) nilS) = .ok (.nx ρ') S' := h
  show thenS ((ev V A).s n ρ S) (fun ρ S => thenS ((ev V B).s n ρ S) ((ev V Cs).s n)) = _
  generalize (ev V A).s n ρ S = o at h ⊢
  cases o with
  | ok fl S1 =>
    cases fl with
    | nx ρ1 =>
      simp only [thenS] at h ⊢
      generalize (ev V B).s n ρ1 S1 = o at h ⊢
      cases o with
      | ok fl S2 =>
        cases fl with
        | nx ρ2 => simp only [nilS] at h ⊢; cases h; rfl
        | _ => cases h
      | _ => cases h
    | _ => cases h
  | _ => cases h
theorem prod_step (k : Nat) (n0 : Nat) (p f found : Int) (turn prime : Option U) (kvs : List (D × D)) (h0 : 1 ≤ found) (h1 : found ≤ 1000000) (ha : AllI kvs) (hl : kvs.length ≤ 100) :
    ∃ p' found' prime' kvs', 1 ≤ found' ∧ found' ≤ 1000000 ∧ AllI kvs' ∧ kvs'.length ≤ kvs.length + 1 ∧
      (ev ⟨cl (k+2), sub, res⟩ d14_b0).s n0 (E14 turn found prime) [penO p f, .dct kvs] = .ok (.nx (E14 turn found' prime')) [penO p' f, .dct kvs'] := by
  obtain ⟨r, p1, a1, a2, e1⟩ := draw0 (k+1) [.dct kvs] p f 10 (by omega) (by omega)
  obtain ⟨r2, p2, b1, b2, e2⟩ := draw0 (k+1) [.dct kvs] p1 f 12 (by omega) (by omega)
  obtain ⟨r3, p3, c1, c2, e3⟩ := draw0 (k+1) [.dct kvs] p2 f 20000 (by omega) (by omega)
  obtain ⟨d, hd, hat⟩ := at_mem [D.int 2, .int 3, .int 5, .int 5, .int 7, .int 13, .int 17, .int 29, .int 101, .int 9973] r a1 (by simpa using a2)
  obtain ⟨q, rfl, q1, q2⟩ : ∃ q : Int, d = .int q ∧ 2 ≤ q ∧ q ≤ 20011 := by
    simp only [List.mem_cons, List.not_mem_nil, or_false] at hd
    rcases hd with rfl | rfl | rfl | rfl | rfl | rfl | rfl | rfl | rfl | rfl <;> exact ⟨_, rfl, by omega, by omega⟩
  -- the prime
  have hp : ∃ q' p', 2 ≤ q' ∧ q' ≤ 20011 ∧ (ev ⟨cl (k+2), sub, res⟩ (.cons (.set 5 (.ix lp14 (.call 8 (.cons (.nm 0) (.cons (.int 10) .nil))))) (.cons (.ite (.cmp .Eq (.call 8 (.cons (.nm 0) (.cons (.int 12) .nil))) (.int 0)) (.cons (.set 5 (.bin .Add (.int 2) (.call 8 (.cons (.nm 0) (.cons (.int 20000) .nil))))) (.cons d14_l1 .nil)) .nil) .nil))).s n0 (E14 turn found prime) [penO p f, .dct kvs] = .ok (.nx (E14 turn found (I q'))) [penO p' f, .dct kvs] := by
    by_cases hz : r2 = 0
    · obtain ⟨q', d1, d2, e4⟩ := next_loop (k+1) n0 [penO p3 f, .dct kvs] (some (.r 0)) (I 1000000) turn (I found) (some (.r 1)) 30000 (2 + r3) (by omega) (by omega) (by omega) FUEL (by unfold FUEL; omega)
      refine ⟨q', p3, d1, d2, ?_⟩
      have e4' : (ev ⟨cl (k+2), sub, res⟩ d14_l1).s n0 (E14 turn found (I (2 + r3))) [penO p3 f, .dct kvs] = .ok (.nx (E14 turn found (I q'))) [penO p3 f, .dct kvs] := e4
      simp [I] at e4'
      simp [I, e1, e2, e3, e4', hat, hz, ev, Sm.ofE, Sm.ofS, nmS, kS, valT, bi2, un1, arS, cmpV, notT, notV, andT, andV, orT, orV, ifV, cmp2, cmp3, cmpS, consA, nilA, bfS, mtS, noA, one, two, bV, outB, boolS, view, viewO, seqS, nilS, thenS, setS, retS, ifS, dropS, raiseS, Out.bind, eqS, ltS, isNS, lenS, isiS, intS, tyOf, binS, addS, subS, mulS, fdivS, modS, powS, ixS, lstS, tupS, newS, asD, okTy, isiB, isBl, exitS, ixN, methS, TyOk, onR, appendS, Pq.setItem, setItS, par2S, par3S, negS, gcS, slS, partS, sliceS]
    · refine ⟨q, p2, q1, q2, ?_⟩
      simp [I, e1, e2, hat, hz, ev, Sm.ofE, Sm.ofS, nmS, kS, valT, bi2, un1, arS, cmpV, notT, notV, andT, andV, orT, orV, ifV, cmp2, cmp3, cmpS, consA, nilA, bfS, mtS, noA, one, two, bV, outB, boolS, view, viewO, seqS, nilS, thenS, setS, retS, ifS, dropS, raiseS, Out.bind, eqS, ltS, isNS, lenS, isiS, intS, tyOf, binS, addS, subS, mulS, fdivS, modS, powS, ixS, lstS, tupS, newS, asD, okTy, isiB, isBl, exitS, ixN, methS, TyOk, onR, appendS, Pq.setItem, setItS, par2S, par3S, negS, gcS, slS, partS, sliceS]
  obtain ⟨q', p', d1, d2, e5⟩ := hp
  have m1 : -18446744073709551616 < q' := by omega
  have m2 : q' < 18446744073709551616 := by omega
  have hl2 : kvs.length < 16777216 := by omega
  obtain ⟨i, hi⟩ := look_int ha (.inl q')
  -- the rest
  have split : (ev ⟨cl (k+2), sub, res⟩ d14_b0).s n0 (E14 turn found prime) [penO p f, .dct kvs] = (ev ⟨cl (k+2), sub, res⟩ (.cons (.ite (.cmp .LtE (.bin .Mult (.nm 3) (.nm 5)) (.nm 1)) (.cons (.set 3 (.bin .Mult (.nm 3) (.nm 5))) (.cons (.setit (.nm 4) (.nm 5) (.bin .Add (.dget2 (.nm 4) (.nm 5) (.int 0)) (.int 1))) .nil)) .nil) .nil)).s n0 (E14 turn found (I q')) [penO p' f, .dct kvs] := by
    exact seq_cut e5
  rw [split]
  by_cases hm : found * q' ≤ 1000000
  · refine ⟨p', found * q', I q', putD kvs (.inl q') (.int (i + 1)), ?_, hm, put_all ha _ _, put_len _ _, ?_⟩
    · have := Int.mul_le_mul h0 d1 (by omega) (by omega); omega
    · simp [I, hm, m1, m2, hl2, hi, dg2S, Pq.kvsOf, Pq.keyOf, dget2S, ev, Sm.ofE, Sm.ofS, nmS, kS, valT, bi2, un1, arS, cmpV, notT, notV, andT, andV, orT, orV, ifV, cmp2, cmp3, cmpS, consA, nilA, bfS, mtS, noA, one, two, bV, outB, boolS, view, viewO, seqS, nilS, thenS, setS, retS, ifS, dropS, raiseS, Out.bind, eqS, ltS, isNS, lenS, isiS, intS, tyOf, binS, addS, subS, mulS, fdivS, modS, powS, ixS, lstS, tupS, newS, asD, okTy, isiB, isBl, exitS, ixN, methS, TyOk, onR, appendS, Pq.setItem, setItS, par2S, par3S, negS, gcS, slS, partS, sliceS]
  · refine ⟨p', found, I q', kvs, h0, h1, ha, by omega, ?_⟩
    simp [I, hm, m1, m2, ev, Sm.ofE, Sm.ofS, nmS, kS, valT, bi2, un1, arS, cmpV, notT, notV, andT, andV, orT, orV, ifV, cmp2, cmp3, cmpS, consA, nilA, bfS, mtS, noA, one, two, bV, outB, boolS, view, viewO, seqS, nilS, thenS, setS, retS, ifS, dropS, raiseS, Out.bind, eqS, ltS, isNS, lenS, isiS, intS, tyOf, binS, addS, subS, mulS, fdivS, modS, powS, ixS, lstS, tupS, newS, asD, okTy, isiB, isBl, exitS, ixN, methS, TyOk, onR, appendS, Pq.setItem, setItS, par2S, par3S, negS, gcS, slS, partS, sliceS]
end Lk

namespace Lk
open PySem PySem.Spec PyProof.Rows L2 Pq
theorem prod_for (k n0 : Nat) : ∀ (ds : List Int) (p f found : Int) (turn prime : Option U) (kvs : List (D × D)), 1 ≤ found → found ≤ 1000000 → AllI kvs → kvs.length + ds.length ≤ 100 →
    ∃ p' found' turn' prime' kvs', 1 ≤ found' ∧ found' ≤ 1000000 ∧
      forL (ev ⟨cl (k+2), sub, res⟩ (.gnm 2)).g ((ev ⟨cl (k+2), sub, res⟩ d14_b0).s n0) (ds.map D.int) (E14 turn found prime) [penO p f, .dct kvs] = .ok (.nx (E14 turn' found' prime')) [penO p' f, .dct kvs'] := by
  intro ds
  induction ds with
  | nil => intro p f found turn prime kvs h0 h1 ha hl; exact ⟨p, found, turn, prime, kvs, h0, h1, rfl⟩
  | cons d ds ih =>
    intro p f found turn prime kvs h0 h1 ha hl
    simp only [List.length_cons] at hl
    obtain ⟨p1, f1, pr1, k1, a1, a2, a3, a4, e⟩ := prod_step k n0 p f found (I d) prime kvs h0 h1 ha (by omega)
    obtain ⟨p', found', turn', prime', kvs', b1, b2, e2⟩ := ih p1 f f1 (I d) pr1 k1 a1 a2 a3 (by omega)
    refine ⟨p', found', turn', prime', kvs', b1, b2, ?_⟩
    show (match (ev ⟨cl (k+2), sub, res⟩ d14_b0).s n0 (E14 (I d) found prime) [penO p f, .dct kvs] with
      | .ok (.nx ρ2) S2 => forL _ _ (ds.map D.int) ρ2 S2
      | .ok (.ct ρ2) S2 => forL _ _ (ds.map D.int) ρ2 S2
      | .ok (.bk ρ2) S2 => .ok (.nx ρ2) S2
      | o => o) = _
    rw [e]
    exact e2
theorem upD_map (n : Nat) (i : Int) : ∃ ds : List Int, upD i n = ds.map D.int ∧ ds.length = n :=
  ⟨(List.range n).map fun j => i + (j : Nat), by simp [upD], by simp⟩
theorem prod_ok (k : Nat) (p f : Int) : ∃ p' found d, 1 ≤ found ∧ found ≤ 1000000 ∧ cl (k+3) 13 [penO p f] [.r 0, .d (.int 1000000)] = .ok (.d (.tup [.int found, d])) [penO p' f] := by
  obtain ⟨r, p1, a1, a2, e1⟩ := draw0 (k+1) [.dct []] p f 8 (by omega) (by omega)
  obtain ⟨ds, ed, el⟩ := upD_map (1 + r).toNat 0
  obtain ⟨p', found', turn', prime', kvs', b1, b2, e2⟩ := prod_for k 1 ds p1 f 1 none none [] (by omega) (by omega) (by intro _ h; cases h) (by simp [el]; omega)
  have e3 : (ev ⟨cl (k+2), sub, res⟩ d14_l0).s 1 (E14 none 1 none) [penO p f, .dct []] = .ok (.nx (E14 turn' found' prime')) [penO p' f, .dct kvs'] := by
    rw [← ed] at e2
    have hr : okR (1 + r) = true := by simp [okR]; omega
    simp only [E14, I] at e2
    simp [d14_l0, forS, range1I, I, e1, hr, ev, Sm.ofE, Sm.ofS, nmS, kS, valT, bi2, un1, arS, cmpV, notT, notV, andT, andV, orT, orV, ifV, cmp2, cmp3, cmpS, consA, nilA, bfS, mtS, noA, one, two, bV, outB, boolS, view, viewO, seqS, nilS, thenS, setS, retS, ifS, dropS, raiseS, Out.bind, eqS, ltS, isNS, lenS, isiS, intS, tyOf, binS, addS, subS, mulS, fdivS, modS, powS, ixS, lstS, tupS, newS, asD, okTy, isiB, isBl, exitS, ixN, methS, TyOk, onR, appendS, Pq.setItem, setItS, par2S, par3S, negS, gcS, slS, partS, sliceS]
    exact e2
  refine ⟨p', found', .dct (kvs'.map (·.1)) (kvs'.map (·.2)), b1, b2, ?_⟩
  show fnS 2 6 (fun n => (ev ⟨cl (k+2), sub, res⟩ d14.body).s n) [penO p f] _ = _
  simp only [E14, I] at e3
  simp [fnS, d14, e3, frzS, frzU, ev, Sm.ofE, Sm.ofS, nmS, kS, valT, bi2, un1, arS, cmpV, notT, notV, andT, andV, orT, orV, ifV, cmp2, cmp3, cmpS, consA, nilA, bfS, mtS, noA, one, two, bV, outB, boolS, view, viewO, seqS, nilS, thenS, setS, retS, ifS, dropS, raiseS, Out.bind, eqS, ltS, isNS, lenS, isiS, intS, tyOf, binS, addS, subS, mulS, fdivS, modS, powS, ixS, lstS, tupS, newS, asD, okTy, isiB, isBl, exitS, ixN, methS, TyOk, onR, appendS, Pq.setItem, setItS, par2S, par3S, negS, gcS, slS, partS, sliceS]
theorem no_number_ok (k : Nat) (p f : Int) : ∃ p' d, (odd d = true ∨ ∃ i, d = .int i ∧ ¬ (0 ≤ i ∧ i ≤ 1000000000)) ∧ cl (k+2) 10 [penO p f] [.r 0, .d (.int 0), .d (.int 1000000000)] = .ok (.d d) [penO p' f] := by
  obtain ⟨r, p', a1, a2, e⟩ := draw0 k [] p f 11 (by omega) (by omega)
  obtain ⟨d, hd, hat⟩ := at_mem [D.int (-1), .int 1000000001, .non, .bl true, .str "0", .tup [.int 0], .lst [.int 0], .int (10 ^ 29), .int (0 - 10 ^ 29), .bl false, .int 1000000002] r a1 (by simpa using a2)
  refine ⟨p', d, ?_, ?_⟩
  · simp only [List.mem_cons, List.not_mem_nil, or_false] at hd
    rcases hd with rfl | rfl | rfl | rfl | rfl | rfl | rfl | rfl | rfl | rfl | rfl <;> first | exact .inl rfl | exact .inr ⟨_, rfl, by omega⟩
  · show fnS 3 4 (fun n => (ev ⟨cl (k+1), sub, res⟩ d11.body).s n) [penO p f] _ = _
    simp at hat
    simp [fnS, d11, e, hat, ev, Sm.ofE, Sm.ofS, nmS, kS, valT, bi2, un1, arS, cmpV, notT, notV, andT, andV, orT, orV, ifV, cmp2, cmp3, cmpS, consA, nilA, bfS, mtS, noA, one, two, bV, outB, boolS, view, viewO, seqS, nilS, thenS, setS, retS, ifS, dropS, raiseS, Out.bind, eqS, ltS, isNS, lenS, isiS, intS, tyOf, binS, addS, subS, mulS, fdivS, modS, powS, ixS, lstS, tupS, newS, asD, okTy, isiB, isBl, exitS, ixN, methS, TyOk, onR, appendS, Pq.setItem, setItS, par2S, par3S, negS, gcS, slS, partS, sliceS]
theorem pen_ok (k : Nat) (S : Sto) (i : Int) : ∃ p f, cl (k+1) 7 S [.d (.int i)] = .ok (.r S.length) (S ++ [penO p f]) := by
  refine ⟨i, if 10 ^ 18 ≤ i then 1 else 0, ?_⟩
  show fnS 1 1 (fun n => (ev ⟨cl k, sub, res⟩ d7.body).s n) S _ = _
  by_cases h : (1000000000000000000 : Int) ≤ i <;> simp [fnS, d7, h, penO, ev, Sm.ofE, Sm.ofS, nmS, kS, valT, bi2, un1, arS, cmpV, notT, notV, andT, andV, orT, orV, ifV, cmp2, cmp3, cmpS, consA, nilA, bfS, mtS, noA, one, two, bV, outB, boolS, view, viewO, seqS, nilS, thenS, setS, retS, ifS, dropS, raiseS, Out.bind, eqS, ltS, isNS, lenS, isiS, intS, tyOf, binS, addS, subS, mulS, fdivS, modS, powS, ixS, lstS, tupS, newS, asD, okTy, isiB, isBl, exitS, ixN, methS, TyOk, onR, appendS, Pq.setItem, setItS, par2S, par3S, negS, gcS, slS, partS, sliceS]
theorem cell_ok (k : Nat) (S : Sto) (ns : List Int) : ∃ i, cl (k+1) 6 S [.d (.scr ns), .d (.int 0)] = .ok (.d (.int i)) S := by
  cases ns with
  | nil =>
    refine ⟨0, ?_⟩
    show fnS 2 2 (fun n => (ev ⟨cl k, sub, res⟩ d6.body).s n) S _ = _
    simp [fnS, d6, ev, Sm.ofE, Sm.ofS, nmS, kS, valT, bi2, un1, arS, cmpV, notT, notV, andT, andV, orT, orV, ifV, cmp2, cmp3, cmpS, consA, nilA, bfS, mtS, noA, one, two, bV, outB, boolS, view, viewO, seqS, nilS, thenS, setS, retS, ifS, dropS, raiseS, Out.bind, eqS, ltS, isNS, lenS, isiS, intS, tyOf, binS, addS, subS, mulS, fdivS, modS, powS, ixS, lstS, tupS, newS, asD, okTy, isiB, isBl, exitS, ixN, methS, TyOk, onR, appendS, Pq.setItem, setItS, par2S, par3S, negS, gcS, slS, partS, sliceS]
  | cons x r =>
    refine ⟨x, ?_⟩
    have h : (0 : Int) < (r.length : Int) + 1 := by omega
    show fnS 2 2 (fun n => (ev ⟨cl k, sub, res⟩ d6.body).s n) S _ = _
    simp [fnS, d6, at0, h, ev, Sm.ofE, Sm.ofS, nmS, kS, valT, bi2, un1, arS, cmpV, notT, notV, andT, andV, orT, orV, ifV, cmp2, cmp3, cmpS, consA, nilA, bfS, mtS, noA, one, two, bV, outB, boolS, view, viewO, seqS, nilS, thenS, setS, retS, ifS, dropS, raiseS, Out.bind, eqS, ltS, isNS, lenS, isiS, intS, tyOf, binS, addS, subS, mulS, fdivS, modS, powS, ixS, lstS, tupS, newS, asD, okTy, isiB, isBl, exitS, ixN, methS, TyOk, onR, appendS, Pq.setItem, setItS, par2S, par3S, negS, gcS, slS, partS, sliceS]
theorem for_keep {tg : SemG} {body : SemS} {ρ : Ev} {S : Sto} : ∀ {ds : List D}, (∀ d ∈ ds, ∃ ρ1, tg (.d d) ρ = some ρ1 ∧ body ρ1 S = .ok (.nx ρ) S) → forL tg body ds ρ S = .ok (.nx ρ) S
  | [], _ => rfl
  | d :: ds, h => by
    obtain ⟨ρ1, h1, h2⟩ := h d (List.mem_cons_self ..)
    simp only [forL, h1, h2]
    exact for_keep fun d hd => h d (List.mem_cons_of_mem _ hd)
abbrev V11 : Gv := ⟨cl 11, sub, res⟩
abbrev E16 (x num cell pen wide nums odd a b due turn found held other : Option U) : Ev := [x, num, cell, pen, wide, nums, odd, a, b, due, turn, found, held, other]
theorem good_list {n : Int} (h0 : 0 ≤ n) (h1 : n ≤ 1000000000) : ∃ l : List (Int × Int), l.length ≤ 40000 ∧ (∀ S, cl 11 11 S [.d (.int n)] = .ok (.r S.length) (S ++ [.lst (l.map prD)])) ∧ ∀ S, cl 11 14 S [.d (.int n)] = .ok (.r S.length) (S ++ [.lst (l.map prD)]) := by
  obtain ⟨l, hl, h1, h2⟩ := ways_all n h0 h1
  exact ⟨l, hl, fun S => h1 10 S, fun S => h2 6 S⟩
theorem same11 (S : Sto) (l : List (Int × Int)) (x y : Nat) (hx : x < S.length) (hy : y < S.length) (ex : S[x]? = some (.lst (l.map prD))) (ey : S[y]? = some (.lst (l.map prD))) (hl : l.length ≤ 40000) : cl 11 9 S [.r x, .r y] = .ok (.d (.bl true)) S := same_list 8 S l x y hx hy ex ey hl
theorem b0_ok (x : Option U) (n : Int) (h0 : 0 ≤ n) (h1 : n ≤ 1000000000) (hx : ∃ d, x = some (.d d)) : (ev V11 d16_b0).s 0 (E16 x (I n) none none none none none none none none none none none none) [] = .ok (.nx (E16 x none none none none none none none none none none none none none)) [] := by
  obtain ⟨d, rfl⟩ := hx
  obtain ⟨l, hl, e1, e2⟩ := good_list h0 h1
  have e3 := same11 [.lst (l.map prD), .lst (l.map prD)] l 0 1 (by simp) (by simp) rfl rfl hl
  have f1 := e1 [.lst (l.map prD)]
  have f2 := e2 []
  simp at f1 f2
  simp [d16_b0, I, f1, f2, e3, dropE, endE, ev, Sm.ofE, Sm.ofS, nmS, kS, valT, bi2, un1, arS, cmpV, notT, notV, andT, andV, orT, orV, ifV, cmp2, cmp3, cmpS, consA, nilA, bfS, mtS, noA, one, two, bV, outB, boolS, view, viewO, seqS, nilS, thenS, setS, retS, ifS, dropS, raiseS, Out.bind, eqS, ltS, isNS, lenS, isiS, intS, tyOf, binS, addS, subS, mulS, fdivS, modS, powS, ixS, lstS, tupS, newS, asD, okTy, isiB, isBl, exitS, ixN, methS, TyOk, onR, appendS, Pq.setItem, setItS, par2S, par3S, negS, gcS, slS, partS, sliceS]
theorem eq_num : eqd (.str "number") (.str "number") = true := by decide +kernel
theorem str_num : PyData.strOk ("number" : Str) = true := by decide +kernel
theorem b4_ok (x c w u a b : D) (d : D) (hd : odd d = true ∨ ∃ i, d = .int i ∧ ¬ (0 ≤ i ∧ i ≤ 1000000000)) (q : O) :
    (ev V11 d16_b4).s 0 (E16 (some (.d x)) none (some (.d c)) (some (.r 0)) (some (.d w)) (some (.d u)) (some (.d d)) (some (.d a)) (some (.d b)) none none none none none) [q] = .ok (.nx (E16 (some (.d x)) none (some (.d c)) (some (.r 0)) (some (.d w)) (some (.d u)) none (some (.d a)) (some (.d b)) none none none none none)) [q] := by
  have e := came_odd 6 [q] d hd
  have e : cl 11 14 [q] [.d d] = .ok (.d (.str "number")) [q] := e
  simp [d16_b4, I, e, dropE, endE, can, dep, eq_num, str_num, ev, Sm.ofE, Sm.ofS, nmS, kS, valT, bi2, un1, arS, cmpV, notT, notV, andT, andV, orT, orV, ifV, cmp2, cmp3, cmpS, consA, nilA, bfS, mtS, noA, one, two, bV, outB, boolS, view, viewO, seqS, nilS, thenS, setS, retS, ifS, dropS, raiseS, Out.bind, eqS, ltS, isNS, lenS, isiS, intS, tyOf, binS, addS, subS, mulS, fdivS, modS, powS, ixS, lstS, tupS, newS, asD, okTy, isiB, isBl, exitS, ixN, methS, TyOk, onR, appendS, Pq.setItem, setItS, par2S, par3S, negS, gcS, slS, partS, sliceS]
theorem b3_ok (x n c w u a b t : D) (q : O) (l : List (Int × Int)) (hl : l.length ≤ 40000) (e2 : ∀ S, cl 11 14 S [.d n] = .ok (.r S.length) (S ++ [.lst (l.map prD)])) :
    (ev V11 d16_b3).s 0 (E16 (some (.d x)) (some (.d n)) (some (.d c)) (some (.r 0)) (some (.d w)) (some (.d u)) none (some (.d a)) (some (.d b)) (some (.r 1)) (some (.d t)) none none none) [q, .lst (l.map prD)] =
      .ok (.nx (E16 (some (.d x)) (some (.d n)) (some (.d c)) (some (.r 0)) (some (.d w)) (some (.d u)) none (some (.d a)) (some (.d b)) (some (.r 1)) none none none none)) [q, .lst (l.map prD)] := by
  have f := e2 [q, .lst (l.map prD)]
  simp at f
  have g := same11 [q, .lst (l.map prD), .lst (l.map prD)] l 2 1 (by simp) (by simp) rfl rfl hl
  have hl2 : l.length < 16777216 := by omega
  simp [d16_b3, I, f, g, dropE, endE, hl2, ev, Sm.ofE, Sm.ofS, nmS, kS, valT, bi2, un1, arS, cmpV, notT, notV, andT, andV, orT, orV, ifV, cmp2, cmp3, cmpS, consA, nilA, bfS, mtS, noA, one, two, bV, outB, boolS, view, viewO, seqS, nilS, thenS, setS, retS, ifS, dropS, raiseS, Out.bind, eqS, ltS, isNS, lenS, isiS, intS, tyOf, binS, addS, subS, mulS, fdivS, modS, powS, ixS, lstS, tupS, newS, asD, okTy, isiB, isBl, exitS, ixN, methS, TyOk, onR, appendS, Pq.setItem, setItS, par2S, par3S, negS, gcS, slS, partS, sliceS]
theorem came1 (S : Sto) : cl 11 14 S [.d (.int 1)] = .ok (.r S.length) (S ++ [.lst [prD (0, 1)]]) := by
  have e1 := ways_ok 7 S 1 1 (by omega) (by omega) (by omega) (by omega) (by omega)
  have e0 := must_from_int 6 S 1 0 1000000000
  rw [if_pos ⟨by omega, by omega⟩] at e0
  have et : tp ((1 : Int).toNat + 1) 1 0 1 = [(0, 1)] := by decide +kernel
  rw [et] at e1
  have e2 : cl 10 5 S [.d (.int 1)] = .ok (.r S.length) (S ++ [.lst [prD (0, 1)]]) := by
    show fnS 1 1 (fun n => (ev ⟨cl 9, sub, res⟩ d5.body).s n) S _ = _
    simp at e0 e1
    simp [fnS, d5, e0, e1, ev, Sm.ofE, Sm.ofS, nmS, kS, valT, bi2, un1, arS, cmpV, notT, notV, andT, andV, orT, orV, ifV, cmp2, cmp3, cmpS, consA, nilA, bfS, mtS, noA, one, two, bV, outB, boolS, view, viewO, seqS, nilS, thenS, setS, retS, ifS, dropS, raiseS, Out.bind, eqS, ltS, isNS, lenS, isiS, intS, tyOf, binS, addS, subS, mulS, fdivS, modS, powS, ixS, lstS, tupS, newS, asD, okTy, isiB, isBl, exitS, ixN, methS, TyOk, onR, appendS, Pq.setItem, setItS, par2S, par3S, negS, gcS, slS, partS, sliceS]
  show fnS 1 2 (fun n => (ev ⟨cl 10, sub, res⟩ d15.body).s n) S _ = _
  simp [fnS, d15, e2, tryS, ev, Sm.ofE, Sm.ofS, nmS, kS, valT, bi2, un1, arS, cmpV, notT, notV, andT, andV, orT, orV, ifV, cmp2, cmp3, cmpS, consA, nilA, bfS, mtS, noA, one, two, bV, outB, boolS, view, viewO, seqS, nilS, thenS, setS, retS, ifS, dropS, raiseS, Out.bind, eqS, ltS, isNS, lenS, isiS, intS, tyOf, binS, addS, subS, mulS, fdivS, modS, powS, ixS, lstS, tupS, newS, asD, okTy, isiB, isBl, exitS, ixN, methS, TyOk, onR, appendS, Pq.setItem, setItS, par2S, par3S, negS, gcS, slS, partS, sliceS]
theorem eq_01 : eqd (.lst [.tup [.int 0, .int 1]]) (.lst [.tup [.int 0, .int 1]]) = true := by decide +kernel
theorem can_01 : can (.lst [.tup [.int 0, .int 1]]) = true := by decide +kernel
theorem dep_01 : dep (.lst [.tup [.int 0, .int 1]]) ≤ 60 := by decide +kernel
theorem b2_ok (x c w u a b : D) (n : Int) (h0 : 0 ≤ n) (h1 : n ≤ 1000000000) (q : O) :
    (ev V11 d16_b2).s 0 (E16 (some (.d x)) (I n) (some (.d c)) (some (.r 0)) (some (.d w)) (some (.d u)) none (some (.d a)) (some (.d b)) none none none none none) [q] =
      .ok (.nx (E16 (some (.d x)) none (some (.d c)) (some (.r 0)) (some (.d w)) (some (.d u)) none (some (.d a)) (some (.d b)) none none none none none)) [q] := by
  obtain ⟨l, hl, e1, e2⟩ := good_list h0 h1
  have f1 := e1 [q]
  have f2 := e2 [q, .lst (l.map prD)]
  have f3 := came1 [q, .lst (l.map prD), .lst (l.map prD)]
  simp [prD] at f1 f2 f3
  have g := same11 [q, .lst (l.map prD), .lst (l.map prD), .lst [.tup [.int 0, .int 1]]] l 2 1 (by simp) (by simp) rfl rfl hl
  have f4 : (ev V11 d16_l3).s 0 (E16 (some (.d x)) (I n) (some (.d c)) (some (.r 0)) (some (.d w)) (some (.d u)) none (some (.d a)) (some (.d b)) (some (.r 1)) none none none none) [q, .lst (l.map prD)] = .ok (.nx (E16 (some (.d x)) (I n) (some (.d c)) (some (.r 0)) (some (.d w)) (some (.d u)) none (some (.d a)) (some (.d b)) (some (.r 1)) none none none none)) [q, .lst (l.map prD)] := by
    have r2 : ∀ ρ S, (ev V11 (.irange1 (.int 2))).i ρ S = .ok (upD 0 2) S := fun ρ S => by simp [range1I, okR, ev, Sm.ofE, Sm.ofS, nmS, kS, valT, bi2, un1, arS, cmpV, notT, notV, andT, andV, orT, orV, ifV, cmp2, cmp3, cmpS, consA, nilA, bfS, mtS, noA, one, two, bV, outB, boolS, view, viewO, seqS, nilS, thenS, setS, retS, ifS, dropS, raiseS, Out.bind, eqS, ltS, isNS, lenS, isiS, intS, tyOf, binS, addS, subS, mulS, fdivS, modS, powS, ixS, lstS, tupS, newS, asD, okTy, isiB, isBl, exitS, ixN, methS, TyOk, onR, appendS, Pq.setItem, setItS, par2S, par3S, negS, gcS, slS, partS, sliceS]
    have uu : (ev V11 d16_l3).s 0 = forS (ev V11 (.irange1 (.int 2))).i (ev V11 (.gnm 10)).g ((ev V11 d16_b3).s 0) := rfl
    rw [uu]
    unfold forS
    rw [r2]
    simp only [Out.bind]
    refine for_keep fun d hd => ⟨_, rfl, ?_⟩
    exact b3_ok x (.int n) c w u a b d q l hl e2
  simp only [I] at f4
  simp [d16_b2, I, f1, f2, f3, f4, g, dropE, endE, eq_01, can_01, dep_01, ev, Sm.ofE, Sm.ofS, nmS, kS, valT, bi2, un1, arS, cmpV, notT, notV, andT, andV, orT, orV, ifV, cmp2, cmp3, cmpS, consA, nilA, bfS, mtS, noA, one, two, bV, outB, boolS, view, viewO, seqS, nilS, thenS, setS, retS, ifS, dropS, raiseS, Out.bind, eqS, ltS, isNS, lenS, isiS, intS, tyOf, binS, addS, subS, mulS, fdivS, modS, powS, ixS, lstS, tupS, newS, asD, okTy, isiB, isBl, exitS, ixN, methS, TyOk, onR, appendS, Pq.setItem, setItS, par2S, par3S, negS, gcS, slS, partS, sliceS]
theorem l2_ok (x c w a b : D) (us : List Int) (hu : ∀ n ∈ us, 0 ≤ n ∧ n ≤ 1000000000) (q : O) :
    (ev V11 d16_l2).s 0 (E16 (some (.d x)) none (some (.d c)) (some (.r 0)) (some (.d w)) (some (.d (.lst (us.map D.int)))) none (some (.d a)) (some (.d b)) none none none none none) [q] =
      .ok (.nx (E16 (some (.d x)) none (some (.d c)) (some (.r 0)) (some (.d w)) (some (.d (.lst (us.map D.int)))) none (some (.d a)) (some (.d b)) none none none none none)) [q] := by
  show forL _ _ (us.map D.int) _ _ = _
  refine for_keep fun d hd => ?_
  obtain ⟨n, hn, rfl⟩ := List.mem_map.mp hd
  exact ⟨_, rfl, b2_ok x c w _ a b n (hu n hn).1 (hu n hn).2 q⟩
abbrev RX (x : D) : Ev := E16 (some (.d x)) none none none none none none none none none none none none none
abbrev it4 : T := .iseq (.lst (.cons (.call 10 (.cons (.nm 3) (.cons (.int 0) (.cons (.bin .Pow (.int 10) (.int 9)) .nil)))) (.cons (.neg (.int 1)) (.cons (.bin .Add (.bin .Pow (.int 10) (.int 9)) (.int 1)) .nil))))
theorem it4_ok {S S' : Sto} {od : D} {ρ : Ev} (hρ : ρ[3]? = some (some (.r 0))) (e : cl 11 10 S [.r 0, .d (.int 0), .d (.int 1000000000)] = .ok (.d od) S') : (ev V11 it4).i ρ S = .ok [od, D.int (-1), D.int 1000000001] S' := by
  simp [it4, seqI, hρ, e, ev, Sm.ofE, Sm.ofS, nmS, kS, valT, bi2, un1, arS, cmpV, notT, notV, andT, andV, orT, orV, ifV, cmp2, cmp3, cmpS, consA, nilA, bfS, mtS, noA, one, two, bV, outB, boolS, view, viewO, seqS, nilS, thenS, setS, retS, ifS, dropS, raiseS, Out.bind, eqS, ltS, isNS, lenS, isiS, intS, tyOf, binS, addS, subS, mulS, fdivS, modS, powS, ixS, lstS, tupS, newS, asD, okTy, isiB, isBl, exitS, ixN, methS, TyOk, onR, appendS, Pq.setItem, setItS, par2S, par3S, negS, gcS, slS, partS, sliceS]
theorem b1_ok (x : D) (i : Int) : (ev V11 d16_b1).s 0 (E16 (some (.d x)) none (I i) none none none none none none none none none none none) [] = .ok (.nx (RX x)) [] := by
  obtain ⟨p, f, e1⟩ := pen_ok 10 [] i
  obtain ⟨r, p1, a1, a2, e2⟩ := draw0 10 [] p f 3 (by omega) (by omega)
  obtain ⟨d, hd, hat⟩ := at_mem [D.int 300, .int 4000, .int 22000] r a1 (by simpa using a2)
  obtain ⟨w, rfl, w1, w2⟩ : ∃ w : Int, d = .int w ∧ 0 < w ∧ w ≤ 22000 := by
    simp only [List.mem_cons, List.not_mem_nil, or_false] at hd
    rcases hd with rfl | rfl | rfl <;> exact ⟨_, rfl, by omega, by omega⟩
  obtain ⟨a, p2, b1, b2, e3⟩ := draw0 10 [] p1 f w w1 (by omega)
  obtain ⟨b, p3, c1, c2, e4⟩ := draw0 10 [] p2 f w w1 (by omega)
  obtain ⟨g, p4, d1, d2, e5⟩ := draw0 10 [] p3 f 10000 (by omega) (by omega)
  obtain ⟨p5, fo, dd, g1, g2, e6⟩ := prod_ok 8 p4 f
  obtain ⟨p6, od, ho, e7⟩ := no_number_ok 9 p5 f
  have m1 : -18446744073709551616 < a := by omega
  have m2 : a < 18446744073709551616 := by omega
  have m3 : -18446744073709551616 < b := by omega
  have m4 : b < 18446744073709551616 := by omega
  have sa := sq_mono b1 (show a ≤ 22000 by omega)
  have sb := sq_mono c1 (show b ≤ 22000 by omega)
  have na := Int.mul_nonneg b1 b1
  have nb := Int.mul_nonneg c1 c1
  have e8 := l2_ok x (.int i) (.int w) (.int a) (.int b) [g, fo, a * a + b * b, a * a, 2 * a * a] (by
    intro n hn
    simp only [List.mem_cons, List.not_mem_nil, or_false] at hn
    have e2 : 2 * a * a = 2 * (a * a) := Int.mul_assoc ..
    rcases hn with rfl | rfl | rfl | rfl | rfl <;> omega) (penO p5 f)
  have e9 : ∀ d ∈ [od, D.int (-1), D.int 1000000001], (odd d = true ∨ ∃ i, d = .int i ∧ ¬ (0 ≤ i ∧ i ≤ 1000000000)) := by
    intro d hd
    simp only [List.mem_cons, List.not_mem_nil, or_false] at hd
    rcases hd with rfl | rfl | rfl
    · exact ho
    · exact .inr ⟨_, rfl, by omega⟩
    · exact .inr ⟨_, rfl, by omega⟩
  have e10 : (ev V11 d16_l4).s 0 (E16 (some (.d x)) none (I i) (some (.r 0)) (I w) (some (.d (.lst ([g, fo, a * a + b * b, a * a, 2 * a * a].map D.int)))) none (I a) (I b) none none none none none) [penO p5 f] = .ok (.nx (E16 (some (.d x)) none (I i) (some (.r 0)) (I w) (some (.d (.lst ([g, fo, a * a + b * b, a * a, 2 * a * a].map D.int)))) none (I a) (I b) none none none none none)) [penO p6 f] := by
    have q1 : (ev V11 d16_l4).s 0 (E16 (some (.d x)) none (I i) (some (.r 0)) (I w) (some (.d (.lst ([g, fo, a * a + b * b, a * a, 2 * a * a].map D.int)))) none (I a) (I b) none none none none none) [penO p5 f] = forL (ev V11 (.gnm 6)).g ((ev V11 d16_b4).s 0) [od, D.int (-1), D.int 1000000001] (E16 (some (.d x)) none (I i) (some (.r 0)) (I w) (some (.d (.lst ([g, fo, a * a + b * b, a * a, 2 * a * a].map D.int)))) none (I a) (I b) none none none none none) [penO p6 f] := by
      show (Out.bind ((ev V11 it4).i _ _) fun ds S1 => forL _ _ ds _ S1) = _
      rw [it4_ok rfl e7]
      rfl
    rw [q1]
    exact for_keep fun d hd => ⟨_, rfl, b4_ok x (.int i) (.int w) _ (.int a) (.int b) d (e9 d hd) (penO p6 f)⟩
  simp at e1 e2 e3 e4 e5 e6 e8 e10
  simp only [I, E16] at e8 e10
  simp [d16_b1, I, e1, e2, hat, e3, e4, e5, e6, e8, e10, at0, m1, m2, m3, m4, dropE, endE, ev, Sm.ofE, Sm.ofS, nmS, kS, valT, bi2, un1, arS, cmpV, notT, notV, andT, andV, orT, orV, ifV, cmp2, cmp3, cmpS, consA, nilA, bfS, mtS, noA, one, two, bV, outB, boolS, view, viewO, seqS, nilS, thenS, setS, retS, ifS, dropS, raiseS, Out.bind, eqS, ltS, isNS, lenS, isiS, intS, tyOf, binS, addS, subS, mulS, fdivS, modS, powS, ixS, lstS, tupS, newS, asD, okTy, isiB, isBl, exitS, ixN, methS, TyOk, onR, appendS, Pq.setItem, setItS, par2S, par3S, negS, gcS, slS, partS, sliceS]
def it0 : T := (.iseq (.lst (.cons (.int 0) (.cons (.int 1) (.cons (.int 2) (.cons (.int 3) (.cons (.int 25) (.cons (.int 50) (.cons (.int 325) (.cons (.int 5525) (.cons (.bin .Pow (.int 10) (.int 6)) (.cons (.bin .Pow (.int 10) (.int 9)) .nil))))))))))))
def it1 : T := .iseq (.bin .Add (.lst (.cons (.call 6 (.cons (.nm 0) (.cons (.int 0) .nil))) .nil)) (.sl (.nm 0) (.cons (.int 1) .nil) (.cons (.int 2) .nil)))
def L0 : List Int := [0, 1, 2, 3, 25, 50, 325, 5525, 1000000, 1000000000]
theorem L0_in (n : Int) (h : n ∈ L0) : 0 ≤ n ∧ n ≤ 1000000000 := by
  simp only [L0, List.mem_cons, List.not_mem_nil, or_false] at h
  omega
theorem it0_ok (ρ : Ev) (S : Sto) : (ev V11 it0).i ρ S = .ok (L0.map D.int) S := by
  simp [L0, it0, seqI, ev, Sm.ofE, Sm.ofS, nmS, kS, valT, bi2, un1, arS, cmpV, notT, notV, andT, andV, orT, orV, ifV, cmp2, cmp3, cmpS, consA, nilA, bfS, mtS, noA, one, two, bV, outB, boolS, view, viewO, seqS, nilS, thenS, setS, retS, ifS, dropS, raiseS, Out.bind, eqS, ltS, isNS, lenS, isiS, intS, tyOf, binS, addS, subS, mulS, fdivS, modS, powS, ixS, lstS, tupS, newS, asD, okTy, isiB, isBl, exitS, ixN, methS, TyOk, onR, appendS, Pq.setItem, setItS, par2S, par3S, negS, gcS, slS, partS, sliceS]
theorem it1_ok (ns : List Int) (hn : ns.length ≤ 63) {ρ : Ev} (hρ : ρ[0]? = some (some (.d (.scr ns)))) : ∃ cs : List Int, (ev V11 it1).i ρ [] = .ok (cs.map D.int) [] := by
  obtain ⟨i, e⟩ := cell_ok 10 [] ns
  have e : cl 11 6 [] [.d (.scr ns), .d (.int 0)] = .ok (.d (.int i)) [] := e
  refine ⟨i :: cut ns (some 1) (some 2), ?_⟩
  have hc : (cut ns (some 1) (some 2)).length ≤ 63 := by unfold Pq.cut; simp; omega
  have hc2 : 1 + (cut ns (some 1) (some 2)).length ≤ 16777216 := by omega
  simp [it1, seqI, hρ, e, hc2, ev, Sm.ofE, Sm.ofS, nmS, kS, valT, bi2, un1, arS, cmpV, notT, notV, andT, andV, orT, orV, ifV, cmp2, cmp3, cmpS, consA, nilA, bfS, mtS, noA, one, two, bV, outB, boolS, view, viewO, seqS, nilS, thenS, setS, retS, ifS, dropS, raiseS, Out.bind, eqS, ltS, isNS, lenS, isiS, intS, tyOf, binS, addS, subS, mulS, fdivS, modS, powS, ixS, lstS, tupS, newS, asD, okTy, isiB, isBl, exitS, ixN, methS, TyOk, onR, appendS, Pq.setItem, setItS, par2S, par3S, negS, gcS, slS, partS, sliceS]
theorem b0_k (ns : List Int) (n : Int) (hn : n ∈ L0) : (ev V11 d16_b0).s 0 (E16 (some (.d (.scr ns))) (I n) none none none none none none none none none none none none) [] = .ok (.nx (RX (.scr ns))) [] := by
  have := b0_ok (some (.d (.scr ns))) n (L0_in n hn).1 (L0_in n hn).2 ⟨_, rfl⟩
  exact this
theorem l0_f (ns L : List Int) (hL : ∀ n ∈ L, n ∈ L0) : forL (ev V11 (.gnm 1)).g ((ev V11 d16_b0).s 0) (L.map D.int) (RX (.scr ns)) [] = .ok (.nx (RX (.scr ns))) [] := by
  refine for_keep fun d hd => ?_
  obtain ⟨n, hn, rfl⟩ := List.mem_map.mp hd
  refine ⟨E16 (some (.d (.scr ns))) (I n) none none none none none none none none none none none none, rfl, ?_⟩
  exact b0_k ns n (hL n hn)
theorem l0_g (ns L : List Int) (hL : ∀ n ∈ L, n ∈ L0) (F : Ev → Sto → Out (List D)) (hF : ∀ ρ S, F ρ S = .ok (L.map D.int) S) : forS F (ev V11 (.gnm 1)).g ((ev V11 d16_b0).s 0) (RX (.scr ns)) [] = .ok (.nx (RX (.scr ns))) [] := by
  unfold forS
  rw [hF]
  simp only [Out.bind]
  exact l0_f ns L hL
theorem for_ev (V : Gv) (it tg b : T) (n : Nat) : (ev V (.for_ it tg b)).s n = forS (ev V it).i (ev V tg).g ((ev V b).s n) := rfl
theorem l0_ok (ns : List Int) : (ev V11 (.for_ it0 (.gnm 1) d16_b0)).s 0 (RX (.scr ns)) [] = .ok (.nx (RX (.scr ns))) [] := by
  rw [for_ev]
  exact l0_g ns L0 (fun _ h => h) _ it0_ok
theorem l1_f (ns cs : List Int) : forL (ev V11 (.gnm 2)).g ((ev V11 d16_b1).s 0) (cs.map D.int) (RX (.scr ns)) [] = .ok (.nx (RX (.scr ns))) [] := by
  refine for_keep fun d hd => ?_
  obtain ⟨n, hn, rfl⟩ := List.mem_map.mp hd
  refine ⟨E16 (some (.d (.scr ns))) none (I n) none none none none none none none none none none none, rfl, ?_⟩
  exact b1_ok (.scr ns) n
theorem l1_ok (ns : List Int) (hn : ns.length ≤ 63) : (ev V11 (.for_ it1 (.gnm 2) d16_b1)).s 0 (RX (.scr ns)) [] = .ok (.nx (RX (.scr ns))) [] := by
  obtain ⟨cs, e1⟩ := it1_ok ns hn (ρ := RX (.scr ns)) rfl
  rw [for_ev]
  unfold forS
  rw [e1]
  simp only [Out.bind]
  exact l1_f ns cs
theorem law_k (k : Nat) (x : D) (hV0 : (ev ⟨cl k, sub, res⟩ d16_l0).s 0 (RX x) [] = .ok (.nx (RX x)) []) (hV1 : (ev ⟨cl k, sub, res⟩ d16_l1).s 0 (RX x) [] = .ok (.nx (RX x)) []) : cl (k+1) 15 [] [.d x] = .ok (.d (.bl true)) [] := by
  show fnS 1 14 (fun n => (ev ⟨cl k, sub, res⟩ d16.body).s n) [] _ = _
  simp only [RX, E16] at hV0 hV1
  simp [fnS, d16, hV0, hV1, dropE, endE, ev, Sm.ofE, Sm.ofS, nmS, kS, valT, bi2, un1, arS, cmpV, notT, notV, andT, andV, orT, orV, ifV, cmp2, cmp3, cmpS, consA, nilA, bfS, mtS, noA, one, two, bV, outB, boolS, view, viewO, seqS, nilS, thenS, setS, retS, ifS, dropS, raiseS, Out.bind, eqS, ltS, isNS, lenS, isiS, intS, tyOf, binS, addS, subS, mulS, fdivS, modS, powS, ixS, lstS, tupS, newS, asD, okTy, isiB, isBl, exitS, ixN, methS, TyOk, onR, appendS, Pq.setItem, setItS, par2S, par3S, negS, gcS, slS, partS, sliceS]
theorem law_val : ∀ ns : List Int, ns.length ≤ 63 → ∃ S, evCall defs sub res 12 15 [] [.d (.scr ns)] = .ok (.d (.bl true)) S := by
  intro ns hn
  have u0 : d16_l0 = .for_ it0 (.gnm 1) d16_b0 := rfl
  have u1 : d16_l1 = .for_ it1 (.gnm 2) d16_b1 := rfl
  exact ⟨[], law_k 11 (.scr ns) (by rw [u0]; exact l0_ok ns) (by rw [u1]; exact l1_ok ns hn)⟩
end Lk

namespace Lk
open PySem PySem.Spec PyProof.Rows L2 Pq
section
def clsT (l : List Addr) : Tab := ⟨fun _ => 0, fun c => l.getD c (l.getD 10 0), fun _ => none⟩
theorem all_mk {P : Program} {w : World} {K : PySem.W.Frag} {h : Heap} {mg : Str → Option Value} {fa : Addr} (X : K.In h) (N : h.Ns mainGlobals mg) (hfa : mg "law" = some (.ref fa)) {f0 f1 f2 f3 f4 f5 f6 f7 f8 f9 f10 f11 f12 f13 f14 f15 f16 C0 C1 C2 C3 C4 C5 C6 C7 C8 C9 C10 C11 : Addr} {od0 an0 od1 an1 od2 an2 od3 an3 od4 an4 od5 an5 od6 an6 od7 an7 od8 an8 od9 an9 od10 an10 od11 an11 od12 an12 od13 an13 od14 an14 od15 an15 od16 an16 : Option Addr} {sl0 sl1 sl2 sl3 sl4 sl5 sl6 sl7 sl8 sl9 sl10 sl11 sl12 sl13 sl14 sl15 sl16 : Array (Option Value)} {oc0 kV0 dc0 pm0 cd0 ct0 oc1 kV1 dc1 pm1 cd1 ct1 oc2 kV2 dc2 pm2 cd2 ct2 oc3 kV3 dc3 pm3 cd3 ct3 oc4 kV4 dc4 pm4 cd4 ct4 oc5 kV5 dc5 pm5 cd5 ct5 oc6 kV6 dc6 pm6 cd6 ct6 oc7 kV7 dc7 pm7 cd7 ct7 oc8 kV8 dc8 pm8 cd8 ct8 oc9 kV9 dc9 pm9 cd9 ct9 oc10 kV10 dc10 pm10 cd10 ct10 oc11 kV11 dc11 pm11 cd11 ct11 oc12 kV12 dc12 pm12 cd12 ct12 oc13 kV13 dc13 pm13 cd13 ct13 oc14 kV14 dc14 pm14 cd14 ct14 oc15 kV15 dc15 pm15 cd15 ct15 oc16 kV16 dc16 pm16 cd16 ct16 : Value} {t0 : Tok}
    (a0 : PySem.W.nsIn K mainGlobals "is_whole" = some (some (.ref f0)))
    (l0 : K.lookup f0 = some ⟨oc0, od0, .func (PySem.W.fnOf "is_whole" "is_whole" (defArgs (top 14)) (defBody (top 14)) (defScope (top 14)) .none kV0 dc0 pm0 an0 cd0 ct0), sl0⟩)
    (c0 : PySem.W.codeIn K cd0 "is_whole" = true)
    (k0 : PySem.W.keepIn K (.ref f0) = true)
    (a1 : PySem.W.nsIn K mainGlobals "is_from" = some (some (.ref f1)))
    (l1 : K.lookup f1 = some ⟨oc1, od1, .func (PySem.W.fnOf "is_from" "is_from" (defArgs (top 15)) (defBody (top 15)) (defScope (top 15)) .none kV1 dc1 pm1 an1 cd1 ct1), sl1⟩)
    (c1 : PySem.W.codeIn K cd1 "is_from" = true)
    (k1 : PySem.W.keepIn K (.ref f1) = true)
    (a2 : PySem.W.nsIn K mainGlobals "must_from" = some (some (.ref f2)))
    (l2 : K.lookup f2 = some ⟨oc2, od2, .func (PySem.W.fnOf "must_from" "must_from" (defArgs (top 16)) (defBody (top 16)) (defScope (top 16)) .none kV2 dc2 pm2 an2 cd2 ct2), sl2⟩)
    (c2 : PySem.W.codeIn K cd2 "must_from" = true)
    (k2 : PySem.W.keepIn K (.ref f2) = true)
    (a3 : PySem.W.nsIn K mainGlobals "root_of" = some (some (.ref f3)))
    (l3 : K.lookup f3 = some ⟨oc3, od3, .func (PySem.W.fnOf "root_of" "root_of" (defArgs (top 19)) (defBody (top 19)) (defScope (top 19)) .none kV3 dc3 pm3 an3 cd3 ct3), sl3⟩)
    (c3 : PySem.W.codeIn K cd3 "root_of" = true)
    (k3 : PySem.W.keepIn K (.ref f3) = true)
    (a4 : PySem.W.nsIn K mainGlobals "ways_of" = some (some (.ref f4)))
    (l4 : K.lookup f4 = some ⟨oc4, od4, .func (PySem.W.fnOf "ways_of" "ways_of" (defArgs (top 20)) (defBody (top 20)) (defScope (top 20)) .none kV4 dc4 pm4 an4 cd4 ct4), sl4⟩)
    (c4 : PySem.W.codeIn K cd4 "ways_of" = true)
    (k4 : PySem.W.keepIn K (.ref f4) = true)
    (a5 : PySem.W.nsIn K mainGlobals "sum_ways" = some (some (.ref f5)))
    (l5 : K.lookup f5 = some ⟨oc5, od5, .func (PySem.W.fnOf "sum_ways" "sum_ways" (defArgs (top 21)) (defBody (top 21)) (defScope (top 21)) .none kV5 dc5 pm5 an5 cd5 ct5), sl5⟩)
    (c5 : PySem.W.codeIn K cd5 "sum_ways" = true)
    (k5 : PySem.W.keepIn K (.ref f5) = true)
    (a6 : PySem.W.nsIn K mainGlobals "_law_cell" = some (some (.ref f6)))
    (l6 : K.lookup f6 = some ⟨oc6, od6, .func (PySem.W.fnOf "_law_cell" "_law_cell" (defArgs (top 23)) (defBody (top 23)) (defScope (top 23)) .none kV6 dc6 pm6 an6 cd6 ct6), sl6⟩)
    (c6 : PySem.W.codeIn K cd6 "_law_cell" = true)
    (k6 : PySem.W.keepIn K (.ref f6) = true)
    (a7 : PySem.W.nsIn K mainGlobals "_law_pen" = some (some (.ref f7)))
    (l7 : K.lookup f7 = some ⟨oc7, od7, .func (PySem.W.fnOf "_law_pen" "_law_pen" (defArgs (top 24)) (defBody (top 24)) (defScope (top 24)) .none kV7 dc7 pm7 an7 cd7 ct7), sl7⟩)
    (c7 : PySem.W.codeIn K cd7 "_law_pen" = true)
    (k7 : PySem.W.keepIn K (.ref f7) = true)
    (a8 : PySem.W.nsIn K mainGlobals "_law_draw" = some (some (.ref f8)))
    (l8 : K.lookup f8 = some ⟨oc8, od8, .func (PySem.W.fnOf "_law_draw" "_law_draw" (defArgs (top 25)) (defBody (top 25)) (defScope (top 25)) .none kV8 dc8 pm8 an8 cd8 ct8), sl8⟩)
    (c8 : PySem.W.codeIn K cd8 "_law_draw" = true)
    (k8 : PySem.W.keepIn K (.ref f8) = true)
    (a9 : PySem.W.nsIn K mainGlobals "_law_same" = some (some (.ref f9)))
    (l9 : K.lookup f9 = some ⟨oc9, od9, .func (PySem.W.fnOf "_law_same" "_law_same" (defArgs (top 26)) (defBody (top 26)) (defScope (top 26)) .none kV9 dc9 pm9 an9 cd9 ct9), sl9⟩)
    (c9 : PySem.W.codeIn K cd9 "_law_same" = true)
    (k9 : PySem.W.keepIn K (.ref f9) = true)
    (a10 : PySem.W.nsIn K mainGlobals "_law_kind_of" = some (some (.ref f10)))
    (l10 : K.lookup f10 = some ⟨oc10, od10, .func (PySem.W.fnOf "_law_kind_of" "_law_kind_of" (defArgs (top 27)) (defBody (top 27)) (defScope (top 27)) .none kV10 dc10 pm10 an10 cd10 ct10), sl10⟩)
    (c10 : PySem.W.codeIn K cd10 "_law_kind_of" = true)
    (k10 : PySem.W.keepIn K (.ref f10) = true)
    (a11 : PySem.W.nsIn K mainGlobals "_law_no_number" = some (some (.ref f11)))
    (l11 : K.lookup f11 = some ⟨oc11, od11, .func (PySem.W.fnOf "_law_no_number" "_law_no_number" (defArgs (top 28)) (defBody (top 28)) (defScope (top 28)) .none kV11 dc11 pm11 an11 cd11 ct11), sl11⟩)
    (c11 : PySem.W.codeIn K cd11 "_law_no_number" = true)
    (k11 : PySem.W.keepIn K (.ref f11) = true)
    (a12 : PySem.W.nsIn K mainGlobals "_law_squares" = some (some (.ref f12)))
    (l12 : K.lookup f12 = some ⟨oc12, od12, .func (PySem.W.fnOf "_law_squares" "_law_squares" (defArgs (top 29)) (defBody (top 29)) (defScope (top 29)) .none kV12 dc12 pm12 an12 cd12 ct12), sl12⟩)
    (c12 : PySem.W.codeIn K cd12 "_law_squares" = true)
    (k12 : PySem.W.keepIn K (.ref f12) = true)
    (a13 : PySem.W.nsIn K mainGlobals "_law_is_prime" = some (some (.ref f13)))
    (l13 : K.lookup f13 = some ⟨oc13, od13, .func (PySem.W.fnOf "_law_is_prime" "_law_is_prime" (defArgs (top 30)) (defBody (top 30)) (defScope (top 30)) .none kV13 dc13 pm13 an13 cd13 ct13), sl13⟩)
    (c13 : PySem.W.codeIn K cd13 "_law_is_prime" = true)
    (k13 : PySem.W.keepIn K (.ref f13) = true)
    (a14 : PySem.W.nsIn K mainGlobals "_law_product" = some (some (.ref f14)))
    (l14 : K.lookup f14 = some ⟨oc14, od14, .func (PySem.W.fnOf "_law_product" "_law_product" (defArgs (top 31)) (defBody (top 31)) (defScope (top 31)) .none kV14 dc14 pm14 an14 cd14 ct14), sl14⟩)
    (c14 : PySem.W.codeIn K cd14 "_law_product" = true)
    (k14 : PySem.W.keepIn K (.ref f14) = true)
    (a15 : PySem.W.nsIn K mainGlobals "_law_came" = some (some (.ref f15)))
    (l15 : K.lookup f15 = some ⟨oc15, od15, .func (PySem.W.fnOf "_law_came" "_law_came" (defArgs (top 32)) (defBody (top 32)) (defScope (top 32)) .none kV15 dc15 pm15 an15 cd15 ct15), sl15⟩)
    (c15 : PySem.W.codeIn K cd15 "_law_came" = true)
    (k15 : PySem.W.keepIn K (.ref f15) = true)
    (a16 : PySem.W.nsIn K mainGlobals "law" = some (some (.ref f16)))
    (l16 : K.lookup f16 = some ⟨oc16, od16, .func (PySem.W.fnOf "law" "law" (defArgs (top 33)) (defBody (top 33)) (defScope (top 33)) .none kV16 dc16 pm16 an16 cd16 ct16), sl16⟩)
    (c16 : PySem.W.codeIn K cd16 "law" = true)
    (k16 : PySem.W.keepIn K (.ref f16) = true)
    (cA0 : PySem.W.nsIn K mainGlobals "FarError" = some (some (.ref C0)))
    (kc0 : PySem.W.keepIn K (.ref C0) = true)
    (cA1 : PySem.W.nsIn K mainGlobals "NoPoint" = some (some (.ref C1)))
    (kc1 : PySem.W.keepIn K (.ref C1) = true)
    (cA2 : PySem.W.nsIn K mainGlobals "NoLot" = some (some (.ref C2)))
    (kc2 : PySem.W.keepIn K (.ref C2) = true)
    (cA3 : PySem.W.nsIn K mainGlobals "NoNumber" = some (some (.ref C3)))
    (kc3 : PySem.W.keepIn K (.ref C3) = true)
    (cA4 : PySem.W.nsIn K mainGlobals "NoCircle" = some (some (.ref C4)))
    (kc4 : PySem.W.keepIn K (.ref C4) = true)
    (cA5 : PySem.W.nsIn K mainGlobals "NoMarks" = some (some (.ref C5)))
    (kc5 : PySem.W.keepIn K (.ref C5) = true)
    (cA6 : PySem.W.nsIn K mainGlobals "NoFars" = some (some (.ref C6)))
    (kc6 : PySem.W.keepIn K (.ref C6) = true)
    (cA7 : PySem.W.nsIn K mainGlobals "NoText" = some (some (.ref C7)))
    (kc7 : PySem.W.keepIn K (.ref C7) = true)
    (cA8 : PySem.W.nsIn K mainGlobals "NoLine" = some (some (.ref C8)))
    (kc8 : PySem.W.keepIn K (.ref C8) = true)
    (cA9 : PySem.W.nsIn K mainGlobals "NoDeed" = some (some (.ref C9)))
    (kc9 : PySem.W.keepIn K (.ref C9) = true)
    (cA10 : PySem.W.nsIn K mainGlobals "Alike" = some (some (.ref C10)))
    (kc10 : PySem.W.keepIn K (.ref C10) = true)
    (cA11 : PySem.W.nsIn K mainGlobals "TooMany" = some (some (.ref C11)))
    (kc11 : PySem.W.keepIn K (.ref C11) = true)
    (z0 : PySem.W.nsIn K mainGlobals "ValueError" = some none)
    (z1 : PySem.W.nsIn K mainGlobals "bool" = some none)
    (z2 : PySem.W.nsIn K mainGlobals "int" = some none)
    (z3 : PySem.W.nsIn K mainGlobals "isinstance" = some none)
    (z4 : PySem.W.nsIn K mainGlobals "len" = some none)
    (z5 : PySem.W.nsIn K mainGlobals "list" = some none)
    (z6 : PySem.W.nsIn K mainGlobals "range" = some none)
    (z7 : PySem.W.nsIn K mainGlobals "str" = some none)
    (z8 : PySem.W.nsIn K mainGlobals "tuple" = some none)
    (z9 : PySem.W.nsIn K mainGlobals "zip" = some none)
    (n0 : PySem.W.nsIn K mainGlobals "MOST_WAYS" = some (some (.int 1000000000 t0)))
    (x3 : PySem.W.excIn K C3 [.type "ValueError", .type "Exception", .type "BaseException", .type "object"] "ValueError.__new__" = true)
    (b3 : PySem.W.subIn K (.ref C3) (.type "BaseException") = some true)
    (y3 : PySem.W.typeIn K (.ref C3) = some (.type "type"))
    (e3a : PySem.W.findIn K (.ref C3) "__getattribute__" = some (some (.builtin "BaseException.__getattribute__")))
    (e3b : PySem.W.findIn K (.ref C3) "__getattr__" = some none)
    (e3c : PySem.W.hasDictIn K C3 = true)
    (e3d : PySem.W.findIn K (.ref C3) "__class__" = some (some (.builtin "object.__class__")))
    (e3e : PySem.W.specialIn K (.builtin "object.__class__") "__get__" = some (some (.builtin "getset_descriptor.__get__")))
    (e3f : PySem.W.takesIn K (.builtin "object.__class__") = some true)
    (e3g : PySem.W.mroIn K C3 (.type "object") = some true)
    (v3 : PySem.W.kitOne K (.ref C3) (.type "ValueError") = some true)
    (q3_0 : PySem.W.kitOne K (.ref C3) (.ref C0) = some true)
    (q3_1 : PySem.W.kitOne K (.ref C3) (.ref C1) = some false)
    (q3_2 : PySem.W.kitOne K (.ref C3) (.ref C2) = some false)
    (q3_3 : PySem.W.kitOne K (.ref C3) (.ref C3) = some true)
    (q3_4 : PySem.W.kitOne K (.ref C3) (.ref C4) = some false)
    (q3_5 : PySem.W.kitOne K (.ref C3) (.ref C5) = some false)
    (q3_6 : PySem.W.kitOne K (.ref C3) (.ref C6) = some false)
    (q3_7 : PySem.W.kitOne K (.ref C3) (.ref C7) = some false)
    (q3_8 : PySem.W.kitOne K (.ref C3) (.ref C8) = some false)
    (q3_9 : PySem.W.kitOne K (.ref C3) (.ref C9) = some false)
    (q3_10 : PySem.W.kitOne K (.ref C3) (.ref C10) = some false)
    (q3_11 : PySem.W.kitOne K (.ref C3) (.ref C11) = some false)
    (u3 : PySem.W.subIn K (.ref C3) (.ref C0) = some true)
    (hf1 : PySem.W.subIn K (.ref C0) (.type "BaseException") = some true)
    (hf2 : PySem.W.hasDictIn K C0 = true)
    (hf3 : PySem.W.typeIn K (.ref C0) = some (.type "type")) :
    ∃ fd : FuncData, (∀ (s : Shared) (v : Value), BindsTo s fd ⟨[v], []⟩ [("_law_script", v)]) ∧ ∀ base : Heap, K.In base → base.Ns mainGlobals mg → FnOk P w K mg base (L2.CX P w) 13 fa fd ["_law_script"] (spLaw K) := by
  have hl := hfa.symm.trans (PySem.W.mg_of X N a16)
  cases hl
  have F0 := fun_mk (st := top 14) l0 c0 k0
  have B0 := F0.binds (ps := ["thing"]) fun _ _ _ _ _ _ us hl => match us, hl with | [_], _ => rfl
  have F1 := fun_mk (st := top 15) l1 c1 k1
  have B1 := F1.binds (ps := ["thing", "low", "high"]) fun _ _ _ _ _ _ us hl => match us, hl with | [_, _, _], _ => rfl
  have F2 := fun_mk (st := top 16) l2 c2 k2
  have B2 := F2.binds (ps := ["thing", "low", "high"]) fun _ _ _ _ _ _ us hl => match us, hl with | [_, _, _], _ => rfl
  have F3 := fun_mk (st := top 19) l3 c3 k3
  have B3 := F3.binds (ps := ["number"]) fun _ _ _ _ _ _ us hl => match us, hl with | [_], _ => rfl
  have F4 := fun_mk (st := top 20) l4 c4 k4
  have B4 := F4.binds (ps := ["number"]) fun _ _ _ _ _ _ us hl => match us, hl with | [_], _ => rfl
  have F5 := fun_mk (st := top 21) l5 c5 k5
  have B5 := F5.binds (ps := ["number"]) fun _ _ _ _ _ _ us hl => match us, hl with | [_], _ => rfl
  have F6 := fun_mk (st := top 23) l6 c6 k6
  have B6 := F6.binds (ps := ["_law_script", "_law_k"]) fun _ _ _ _ _ _ us hl => match us, hl with | [_, _], _ => rfl
  have F7 := fun_mk (st := top 24) l7 c7 k7
  have B7 := F7.binds (ps := ["_law_cell_here"]) fun _ _ _ _ _ _ us hl => match us, hl with | [_], _ => rfl
  have F8 := fun_mk (st := top 25) l8 c8 k8
  have B8 := F8.binds (ps := ["_law_pen_here", "_law_many"]) fun _ _ _ _ _ _ us hl => match us, hl with | [_, _], _ => rfl
  have F9 := fun_mk (st := top 26) l9 c9 k9
  have B9 := F9.binds (ps := ["_law_found", "_law_due"]) fun _ _ _ _ _ _ us hl => match us, hl with | [_, _], _ => rfl
  have F10 := fun_mk (st := top 27) l10 c10 k10
  have B10 := F10.binds (ps := ["_law_e"]) fun _ _ _ _ _ _ us hl => match us, hl with | [_], _ => rfl
  have F11 := fun_mk (st := top 28) l11 c11 k11
  have B11 := F11.binds (ps := ["_law_pen_here", "_law_low", "_law_high"]) fun _ _ _ _ _ _ us hl => match us, hl with | [_, _, _], _ => rfl
  have F12 := fun_mk (st := top 29) l12 c12 k12
  have B12 := F12.binds (ps := ["_law_number"]) fun _ _ _ _ _ _ us hl => match us, hl with | [_], _ => rfl
  have F13 := fun_mk (st := top 30) l13 c13 k13
  have B13 := F13.binds (ps := ["_law_number"]) fun _ _ _ _ _ _ us hl => match us, hl with | [_], _ => rfl
  have F14 := fun_mk (st := top 31) l14 c14 k14
  have B14 := F14.binds (ps := ["_law_pen_here", "_law_most"]) fun _ _ _ _ _ _ us hl => match us, hl with | [_, _], _ => rfl
  have F15 := fun_mk (st := top 32) l15 c15 k15
  have B15 := F15.binds (ps := ["_law_number"]) fun _ _ _ _ _ _ us hl => match us, hl with | [_], _ => rfl
  have F16 := fun_mk (st := top 33) l16 c16 k16
  have B16 := F16.binds (ps := ["_law_script"]) fun _ _ _ _ _ _ us hl => match us, hl with | [_], _ => rfl
  have cm : ∀ (c : Nat) (x : Str), gc.clss[c]? = some x → mg x = some (.ref ((clsT [C0, C1, C2, C3, C4, C5, C6, C7, C8, C9, C10, C11]).cls c)) ∧ PySem.W.keepIn K (.ref ((clsT [C0, C1, C2, C3, C4, C5, C6, C7, C8, C9, C10, C11]).cls c)) = true := fun c x e => match c, e with
    | 0, e => by cases e; exact ⟨PySem.W.mg_of X N cA0, kc0⟩
    | 1, e => by cases e; exact ⟨PySem.W.mg_of X N cA1, kc1⟩
    | 2, e => by cases e; exact ⟨PySem.W.mg_of X N cA2, kc2⟩
    | 3, e => by cases e; exact ⟨PySem.W.mg_of X N cA3, kc3⟩
    | 4, e => by cases e; exact ⟨PySem.W.mg_of X N cA4, kc4⟩
    | 5, e => by cases e; exact ⟨PySem.W.mg_of X N cA5, kc5⟩
    | 6, e => by cases e; exact ⟨PySem.W.mg_of X N cA6, kc6⟩
    | 7, e => by cases e; exact ⟨PySem.W.mg_of X N cA7, kc7⟩
    | 8, e => by cases e; exact ⟨PySem.W.mg_of X N cA8, kc8⟩
    | 9, e => by cases e; exact ⟨PySem.W.mg_of X N cA9, kc9⟩
    | 10, e => by cases e; exact ⟨PySem.W.mg_of X N cA10, kc10⟩
    | 11, e => by cases e; exact ⟨PySem.W.mg_of X N cA11, kc11⟩
    | c + 12, e => by simp [gc] at e
  have O3 : ClsOk K (clsT [C0, C1, C2, C3, C4, C5, C6, C7, C8, C9, C10, C11]) sub 3 := ⟨⟨e3a, e3b, b3, e3c, e3d, e3e, e3f, e3g⟩, v3, fun c' => match c' with
      | 0 => q3_0
      | 1 => q3_1
      | 2 => q3_2
      | 3 => q3_3
      | 4 => q3_4
      | 5 => q3_5
      | 6 => q3_6
      | 7 => q3_7
      | 8 => q3_8
      | 9 => q3_9
      | 10 => q3_10
      | 11 => q3_11
      | c' + 12 => by
        have e : sub 3 (c' + 12) = false := by unfold sub; simp <;> omega
        rw [e]
        exact q3_10⟩
  have zn : ∀ x, gc.none.contains x = true → mg x = none := by
    intro x e
    simp only [gc, List.contains_iff_mem, List.mem_cons, List.not_mem_nil, or_false] at e
    rcases e with rfl | rfl | rfl | rfl | rfl | rfl | rfl | rfl | rfl | rfl
    · exact PySem.W.mg_none_of X N z0
    · exact PySem.W.mg_none_of X N z1
    · exact PySem.W.mg_none_of X N z2
    · exact PySem.W.mg_none_of X N z3
    · exact PySem.W.mg_none_of X N z4
    · exact PySem.W.mg_none_of X N z5
    · exact PySem.W.mg_none_of X N z6
    · exact PySem.W.mg_none_of X N z7
    · exact PySem.W.mg_none_of X N z8
    · exact PySem.W.mg_none_of X N z9
  have nn : ∀ x i, gc.nums.contains (x, i) = true → ∃ t, mg x = some (.int i t) := by
    intro x i e
    simp only [gc, List.contains_iff_mem, List.mem_cons, List.not_mem_nil, or_false, Prod.mk.injEq] at e
    rcases e with ⟨rfl, rfl⟩
    · exact ⟨_, PySem.W.mg_of X N n0⟩
  have rr : ∀ (c : Nat) (x : Str), gc.rais.contains c = true → gc.clss[c]? = some x → ∃ (B newId initId : String) (bmB : List Value), ExcBaseFacts B newId initId bmB ∧ PySem.W.excIn K ((clsT [C0, C1, C2, C3, C4, C5, C6, C7, C8, C9, C10, C11]).cls c) bmB newId = true ∧ PySem.W.subIn K (.ref ((clsT [C0, C1, C2, C3, C4, C5, C6, C7, C8, C9, C10, C11]).cls c)) (.type "BaseException") = some true ∧ PySem.W.typeIn K (.ref ((clsT [C0, C1, C2, C3, C4, C5, C6, C7, C8, C9, C10, C11]).cls c)) = some (.type "type") := by
    intro c x hc e
    simp only [gc, List.contains_iff_mem, List.mem_cons, List.not_mem_nil, or_false] at hc
    rcases hc with rfl
    · exact ⟨_, _, _, _, PySem.F.excBase_ValueError, x3, b3, y3⟩
  have k1 : ∀ c r, res c = some r → ClsOk K (clsT [C0, C1, C2, C3, C4, C5, C6, C7, C8, C9, C10, C11]) sub c := by
    intro c r e
    unfold res at e
    split at e <;> first | exact O3 | (cases e; done)
  have k2 : ∀ c r, res c = some r → PySem.W.exmOne K (.ref ((clsT [C0, C1, C2, C3, C4, C5, C6, C7, C8, C9, C10, C11]).cls c)) (.ref C0) = some true := by
    intro c r e
    unfold res at e
    split at e <;> first | exact PySem.W.exm_ref hf1 hf2 hf3 u3 | (cases e; done)
  have ff : ∀ (f : Nat) (n : Str) (j : Nat), gc.fns[f]? = some (n, j) → ∃ (d : Df) (st : Stmt) (qual : Str) (a : Addr) (fd : FuncData) (ps : List Str), defs[f]? = some d ∧ d.ar = j ∧ ps.length = j ∧ Fun K n qual st a fd ∧ FnScope d.N ps (defScope st) ∧ (ck gc d.body).b (ccOf d st) (defBody st) = true ∧ mg n = some (.ref a) ∧ Binds K fd ps [] := fun f n j e => match f, e with
    | 0, e => by cases e; exact ⟨d0, top 14, _, f0, _, _, rfl, rfl, rfl, F0, sc0, ck0, PySem.W.mg_of X N a0, B0⟩
    | 1, e => by cases e; exact ⟨d1, top 15, _, f1, _, _, rfl, rfl, rfl, F1, sc1, ck1, PySem.W.mg_of X N a1, B1⟩
    | 2, e => by cases e; exact ⟨d2, top 16, _, f2, _, _, rfl, rfl, rfl, F2, sc2, ck2, PySem.W.mg_of X N a2, B2⟩
    | 3, e => by cases e; exact ⟨d3, top 19, _, f3, _, _, rfl, rfl, rfl, F3, sc3, ck3, PySem.W.mg_of X N a3, B3⟩
    | 4, e => by cases e; exact ⟨d4, top 20, _, f4, _, _, rfl, rfl, rfl, F4, sc4, ck4, PySem.W.mg_of X N a4, B4⟩
    | 5, e => by cases e; exact ⟨d5, top 21, _, f5, _, _, rfl, rfl, rfl, F5, sc5, ck5, PySem.W.mg_of X N a5, B5⟩
    | 6, e => by cases e; exact ⟨d6, top 23, _, f6, _, _, rfl, rfl, rfl, F6, sc6, ck6, PySem.W.mg_of X N a6, B6⟩
    | 7, e => by cases e; exact ⟨d7, top 24, _, f7, _, _, rfl, rfl, rfl, F7, sc7, ck7, PySem.W.mg_of X N a7, B7⟩
    | 8, e => by cases e; exact ⟨d8, top 25, _, f8, _, _, rfl, rfl, rfl, F8, sc8, ck8, PySem.W.mg_of X N a8, B8⟩
    | 9, e => by cases e; exact ⟨d9, top 26, _, f9, _, _, rfl, rfl, rfl, F9, sc9, ck9, PySem.W.mg_of X N a9, B9⟩
    | 10, e => by cases e; exact ⟨d11, top 28, _, f11, _, _, rfl, rfl, rfl, F11, sc11, ck11, PySem.W.mg_of X N a11, B11⟩
    | 11, e => by cases e; exact ⟨d12, top 29, _, f12, _, _, rfl, rfl, rfl, F12, sc12, ck12, PySem.W.mg_of X N a12, B12⟩
    | 12, e => by cases e; exact ⟨d13, top 30, _, f13, _, _, rfl, rfl, rfl, F13, sc13, ck13, PySem.W.mg_of X N a13, B13⟩
    | 13, e => by cases e; exact ⟨d14, top 31, _, f14, _, _, rfl, rfl, rfl, F14, sc14, ck14, PySem.W.mg_of X N a14, B14⟩
    | 14, e => by cases e; exact ⟨d15, top 32, _, f15, _, _, rfl, rfl, rfl, F15, sc15, ck15, PySem.W.mg_of X N a15, B15⟩
    | 15, e => by cases e; exact ⟨d16, top 33, _, fa, _, _, rfl, rfl, rfl, F16, sc16, ck16, PySem.W.mg_of X N a16, B16⟩
    | f + 16, e => by simp [gc] at e
  have L : ∀ base : Heap, Lw defs sub res gc (clsT [C0, C1, C2, C3, C4, C5, C6, C7, C8, C9, C10, C11]) P w K mg base := fun base =>
    ⟨zn, nn, cm, rr, ff, fun _ => rfl, fun _ => ⟨d10, top 27, _, f10, _, _, C0, F10, sc10, rfl, ck10, PySem.W.mg_of X N a10, B10, PySem.W.mg_of X N cA0, k1, k2, hres⟩⟩
  exact ⟨_, fun s v => .of_eq rfl, fun base _ _ => ((L base).one 11 (f := 15) (d := d16) rfl F16 sc16 rfl ck16).imp (law_imp law_val)⟩
end
end Lk
open PySem PySem.W PyProof.Rows
set_option maxHeartbeats 0 in
theorem PySem.Challenge.cw_fewdistances_k40_sums_of_two_squares_holds : PySem.Challenge.rw_fewdistances_k40_sums_of_two_squares.Holds := by
  w_on; o_law; k_head; (case hw => w_witness2)
  k_fill
  refine L2.walk_of (l := PySem.Challenge.rw_fewdistances_k40_sums_of_two_squares) (n := 63) (k := 13) (x := "_law_script") (CX := fun w => L2.CX PySem.Challenge.pw_fewdistances_k40_sums_of_two_squares w) (sp := fun w => Pq.spLaw _) rfl (by decide) rfl ⟨rfl, by decide, by decide⟩ (fun w h Y => PySem.W.kIn_of Y) ?F (fun _ _ a ns hl _ hS => ⟨a, ns, rfl, hS, hl, fun _ => rfl⟩) (fun _ _ _ _ _ z => by obtain ⟨_, _, _, _, _, _, _, _, _, _, _, _, z⟩ := z; exact z)
  case F =>
    intro w mg fa h KX G hmg
    refine' Lk.all_mk KX G hmg ?a0 ?l0 ?c0 ?k0 ?a1 ?l1 ?c1 ?k1 ?a2 ?l2 ?c2 ?k2 ?a3 ?l3 ?c3 ?k3 ?a4 ?l4 ?c4 ?k4 ?a5 ?l5 ?c5 ?k5 ?a6 ?l6 ?c6 ?k6 ?a7 ?l7 ?c7 ?k7 ?a8 ?l8 ?c8 ?k8 ?a9 ?l9 ?c9 ?k9 ?a10 ?l10 ?c10 ?k10 ?a11 ?l11 ?c11 ?k11 ?a12 ?l12 ?c12 ?k12 ?a13 ?l13 ?c13 ?k13 ?a14 ?l14 ?c14 ?k14 ?a15 ?l15 ?c15 ?k15 ?a16 ?l16 ?c16 ?k16 ?cA0 ?kc0 ?cA1 ?kc1 ?cA2 ?kc2 ?cA3 ?kc3 ?cA4 ?kc4 ?cA5 ?kc5 ?cA6 ?kc6 ?cA7 ?kc7 ?cA8 ?kc8 ?cA9 ?kc9 ?cA10 ?kc10 ?cA11 ?kc11 ?z0 ?z1 ?z2 ?z3 ?z4 ?z5 ?z6 ?z7 ?z8 ?z9 ?n0 ?x3 ?b3 ?y3 ?e3a ?e3b ?e3c ?e3d ?e3e ?e3f ?e3g ?v3 ?q3_0 ?q3_1 ?q3_2 ?q3_3 ?q3_4 ?q3_5 ?q3_6 ?q3_7 ?q3_8 ?q3_9 ?q3_10 ?q3_11 ?u3 ?hf1 ?hf2 ?hf3
    (case a0 => k_is)
    (case l0 => k_is)
    (case c0 => k_is)
    (case k0 => k_is)
    (case a1 => k_is)
    (case l1 => k_is)
    (case c1 => k_is)
    (case k1 => k_is)
    (case a2 => k_is)
    (case l2 => k_is)
    (case c2 => k_is)
    (case k2 => k_is)
    (case a3 => k_is)
    (case l3 => k_is)
    (case c3 => k_is)
    (case k3 => k_is)
    (case a4 => k_is)
    (case l4 => k_is)
    (case c4 => k_is)
    (case k4 => k_is)
    (case a5 => k_is)
    (case l5 => k_is)
    (case c5 => k_is)
    (case k5 => k_is)
    (case a6 => k_is)
    (case l6 => k_is)
    (case c6 => k_is)
    (case k6 => k_is)
    (case a7 => k_is)
    (case l7 => k_is)
    (case c7 => k_is)
    (case k7 => k_is)
    (case a8 => k_is)
    (case l8 => k_is)
    (case c8 => k_is)
    (case k8 => k_is)
    (case a9 => k_is)
    (case l9 => k_is)
    (case c9 => k_is)
    (case k9 => k_is)
    (case a10 => k_is)
    (case l10 => k_is)
    (case c10 => k_is)
    (case k10 => k_is)
    (case a11 => k_is)
    (case l11 => k_is)
    (case c11 => k_is)
    (case k11 => k_is)
    (case a12 => k_is)
    (case l12 => k_is)
    (case c12 => k_is)
    (case k12 => k_is)
    (case a13 => k_is)
    (case l13 => k_is)
    (case c13 => k_is)
    (case k13 => k_is)
    (case a14 => k_is)
    (case l14 => k_is)
    (case c14 => k_is)
    (case k14 => k_is)
    (case a15 => k_is)
    (case l15 => k_is)
    (case c15 => k_is)
    (case k15 => k_is)
    (case a16 => k_is)
    (case l16 => k_is)
    (case c16 => k_is)
    (case k16 => k_is)
    (case cA0 => k_is)
    (case kc0 => k_is)
    (case cA1 => k_is)
    (case kc1 => k_is)
    (case cA2 => k_is)
    (case kc2 => k_is)
    (case cA3 => k_is)
    (case kc3 => k_is)
    (case cA4 => k_is)
    (case kc4 => k_is)
    (case cA5 => k_is)
    (case kc5 => k_is)
    (case cA6 => k_is)
    (case kc6 => k_is)
    (case cA7 => k_is)
    (case kc7 => k_is)
    (case cA8 => k_is)
    (case kc8 => k_is)
    (case cA9 => k_is)
    (case kc9 => k_is)
    (case cA10 => k_is)
    (case kc10 => k_is)
    (case cA11 => k_is)
    (case kc11 => k_is)
    (case z0 => k_is)
    (case z1 => k_is)
    (case z2 => k_is)
    (case z3 => k_is)
    (case z4 => k_is)
    (case z5 => k_is)
    (case z6 => k_is)
    (case z7 => k_is)
    (case z8 => k_is)
    (case z9 => k_is)
    (case n0 => k_is)
    (case x3 => k_exc)
    (case b3 => k_is)
    (case y3 => k_is)
    (case e3a => k_is)
    (case e3b => k_is)
    (case e3c => k_is)
    (case e3d => k_is)
    (case e3e => k_is)
    (case e3f => k_is)
    (case e3g => k_is)
    (case v3 => first | k_is | rfl)
    (case q3_0 => first | k_is | rfl)
    (case q3_1 => first | k_is | rfl)
    (case q3_2 => first | k_is | rfl)
    (case q3_3 => first | k_is | rfl)
    (case q3_4 => first | k_is | rfl)
    (case q3_5 => first | k_is | rfl)
    (case q3_6 => first | k_is | rfl)
    (case q3_7 => first | k_is | rfl)
    (case q3_8 => first | k_is | rfl)
    (case q3_9 => first | k_is | rfl)
    (case q3_10 => first | k_is | rfl)
    (case q3_11 => first | k_is | rfl)
    (case u3 => k_is)
    (case hf1 => k_is)
    (case hf2 => k_is)
    (case hf3 => k_is)

