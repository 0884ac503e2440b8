import PyProof.Rows.All
import Wide.All
import OpenK.AllK
import Wide.FinOn
import HandS.ForMost
import HandS.Walk
import HandS.IsInst
import HandS.Exc
import HandS.WordsExc
import KE.SortData
import HandS.TupAny
import HandS.Conv
import HandS.Deep
import HandS.TupLe
import HandS.Style
import HandS.TupMul
import HandS.Wide
import KE.DataCmp
import HandS.Small
import HandS.TupLen
import HandS.ExcOwn
import HandS.RaiseMore
import PyProof.ListStr
import PyProof.ListRange
import KE.GoesEnum
import PyProof.EnumMake
import HandS.Zip
import KE.DataFind
import KE.DataMinMax
import KE.KRevSl
import HandS.Iter
import PyProof.StrOps2
import HandS.More
import KE.KDictSum
import PyProof.Rows.TupTab
import HandS.TupSets
import PySem.Challenge.RW_semaphores_k14_whole_turns_of_arms
set_option Elab.async false
set_option linter.all false
set_option maxRecDepth 100000
set_option maxHeartbeats 4000000
namespace MP
open PySem PySem.Spec PyProof.Rows L2

/-! ## values, results -/
abbrev D := PyData
abbrev Cup := Int × Int
abbrev Env := List (Option D)
inductive Res (α : Type) where
  | ok (a : α) (c : Cup) | err (e : Str) (c : Cup) | bad
def Res.bind {α β : Type} (r : Res α) (g : α → Cup → Res β) : Res β := match r with
  | .ok a c => g a c
  | .err e c => .err e c
  | .bad => .bad
@[simp] theorem Res.bind_ok {α β : Type} (a : α) (c : Cup) (g : α → Cup → Res β) : (Res.ok a c).bind g = g a c := rfl
@[simp] theorem Res.bind_err {α β : Type} (e : Str) (c : Cup) (g : α → Cup → Res β) : (Res.err e c).bind g = .err e c := rfl
@[simp] theorem Res.bind_bad {α β : Type} (g : α → Cup → Res β) : (Res.bad).bind g = .bad := rfl
abbrev Ev := Env → Cup → Res D
abbrev Evs := Env → Cup → Res (List D)

/-! ## what a value stands for -/
/-- the module's fixed things, the program, the world -/
structure MpK where
  k : PySem.W.Frag
  P : Program
  w : World
instance : Coe MpK PySem.W.Frag := ⟨MpK.k⟩
abbrev _root_.L2.Cx.kk (X : Cx) : MpK := ⟨X.K, X.prog, X.w⟩
/-- a dict whose keys are tuples of ints and texts, by its entries -/
def TDp (P : Program) (w : World) (a : Addr) (xs : List (List Key × Addr × Value)) (h : Heap) : Prop :=
  (a == sysModules) = false ∧ ∃ o es ep, h.get? a = some o ∧ o.ExactDict ∧ o.data = .dict es ep ∧ es.toList = xs.map (entryOfKey (tupleKind (mixKind P w))) ∧ (xs.map (·.1)).Nodup
def TD (P : Program) (w : World) (a : Addr) (xs : List (List Key × Addr × Value)) : HO := .ext (TDp P w a xs)
/-- a dict's keys: ints and texts -/
def keyD : Key → D
  | .inl i => .int i
  | .inr x => .str x
/-- texts that can stand -/
def sOk (x : Str) : Prop := PyData.strOk x = true ∧ x.length ≤ sizeLine
mutual
inductive Rp (K : MpK) (F : Hp) : V → D → Prop
  | non : Rp K F .non .none
  | bl (b : Bool) : Rp K F (.bl b) (.bool b)
  | int (i : Int) : Rp K F (.int i) (.int i)
  | str (x : Str) (h : sOk x) : Rp K F (.str x) (.str x)
  | lst {a : Addr} {xs : List V} {ds : List D} : F a = some (.lst xs) → xs.length ≤ sizeLine → RpA K F xs ds → Rp K F (.ref a) (.list ds)
  | tup {a : Addr} {xs : List V} {ds : List D} : SqT K F a xs → xs.length ≤ sizeLine → RpA K F xs ds → Rp K F (.ref a) (.tuple ds)
  | dct {a : Addr} {kvs : List (Key × V)} {ds : List (D × D)} : F a = some (.dK kvs) → RpK K F kvs ds → Rp K F (.ref a) (.dict ds)
  | dctT {a : Addr} {xs : List (List Key × Addr × Value)} {ds : List (D × D)} : F a = some (TD K.P K.w a xs) → xs ≠ [] → xs.length ≤ sizeLine → RpT K F xs ds → Rp K F (.ref a) (.dict ds)
inductive RpA (K : MpK) (F : Hp) : List V → List D → Prop
  | nil : RpA K F [] []
  | cons {v : V} {vs : List V} {d : D} {ds : List D} : Rp K F v d → RpA K F vs ds → RpA K F (v :: vs) (d :: ds)
inductive RpK (K : MpK) (F : Hp) : List (Key × V) → List (D × D) → Prop
  | nil : RpK K F [] []
  | cons {k : Key} {v : V} {vs : List (Key × V)} {d : D} {ds : List (D × D)} : Rp K F v d → RpK K F vs ds → RpK K F ((k, v) :: vs) ((keyD k, d) :: ds)
inductive RpT (K : MpK) (F : Hp) : List (List Key × Addr × Value) → List (D × D) → Prop
  | nil : RpT K F [] []
  | cons {k : List Key} {b : Addr} {u : Value} {v : V} {xs : List (List Key × Addr × Value)} {d : D} {ds : List (D × D)} : SqT K F b (k.map kV) → k.length ≤ sizeLine → (∀ x : Str, .inr x ∈ k → sOk x) → RelV v u → Rp K F v d → RpT K F xs ds → RpT K F ((k, b, u) :: xs) ((.tuple (k.map keyD), d) :: ds)
end
theorem SqT_same {K : MpK} {H H' : Hp} {a : Addr} {xs : List V} (e : Same H H') (h : SqT K H a xs) : SqT K H' a xs := by
  rcases h with (h | ⟨o, h⟩) | h
  · exact .inl (.inl (e _ _ h))
  · exact .inl (.inr ⟨o, e _ _ h⟩)
  · exact .inr h
section
variable {K : MpK} {F F' : Hp}
mutual
theorem Rp.mono (e : Same F F') : ∀ {v : V} {d : D}, Rp K F v d → Rp K F' v d
  | _, _, .non => .non
  | _, _, .bl b => .bl b
  | _, _, .int i => .int i
  | _, _, .str x h => .str x h
  | _, _, .lst h l r => .lst (e _ _ h) l (RpA.mono e r)
  | _, _, .tup h l r => .tup (SqT_same e h) l (RpA.mono e r)
  | _, _, .dct h r => .dct (e _ _ h) (RpK.mono e r)
  | _, _, .dctT h n l r => .dctT (e _ _ h) n l (RpT.mono e r)
theorem RpA.mono (e : Same F F') : ∀ {vs : List V} {ds : List D}, RpA K F vs ds → RpA K F' vs ds
  | _, _, .nil => .nil
  | _, _, .cons h r => .cons (Rp.mono e h) (RpA.mono e r)
theorem RpK.mono (e : Same F F') : ∀ {vs : List (Key × V)} {ds : List (D × D)}, RpK K F vs ds → RpK K F' vs ds
  | _, _, .nil => .nil
  | _, _, .cons h r => .cons (Rp.mono e h) (RpK.mono e r)
theorem RpT.mono (e : Same F F') : ∀ {vs : List (List Key × Addr × Value)} {ds : List (D × D)}, RpT K F vs ds → RpT K F' vs ds
  | _, _, .nil => .nil
  | _, _, .cons h1 h2 h3 h4 h r => .cons (SqT_same e h1) h2 h3 h4 (Rp.mono e h) (RpT.mono e r)
end
theorem RpA.length : ∀ {vs : List V} {ds : List D}, RpA K F vs ds → vs.length = ds.length
  | _, _, .nil => rfl
  | _, _, .cons _ r => by rw [List.length_cons, List.length_cons, RpA.length r]
theorem RpA.get : ∀ {vs : List V} {ds : List D} {i : Nat} {d : D}, RpA K F vs ds → ds[i]? = some d → ∃ v, vs[i]? = some v ∧ Rp K F v d
  | _, _, _, _, .nil, e => by simp at e
  | _, _, 0, _, .cons h r, e => by simp at e; subst e; exact ⟨_, rfl, h⟩
  | _, _, i + 1, d, .cons h r, e => by
    obtain ⟨v, h1, h2⟩ := RpA.get (i := i) (d := d) r (by simpa using e)
    exact ⟨v, by simpa using h1, h2⟩
theorem RpA.getV : ∀ {vs : List V} {ds : List D} {i : Nat} {v : V}, RpA K F vs ds → vs[i]? = some v → ∃ d, ds[i]? = some d ∧ Rp K F v d
  | _, _, _, _, .nil, e => by simp at e
  | _, _, 0, _, .cons h r, e => by simp at e; subst e; exact ⟨_, rfl, h⟩
  | _, _, i + 1, d, .cons h r, e => by
    obtain ⟨v, h1, h2⟩ := RpA.getV (i := i) (v := d) r (by simpa using e)
    exact ⟨v, by simpa using h1, h2⟩
theorem RpA.append : ∀ {vs ws : List V} {ds es : List D}, RpA K F vs ds → RpA K F ws es → RpA K F (vs ++ ws) (ds ++ es)
  | _, _, _, _, .nil, s => s
  | _, _, _, _, .cons h r, s => .cons h (RpA.append r s)
theorem RpA.take : ∀ {vs : List V} {ds : List D} (n : Nat), RpA K F vs ds → RpA K F (vs.take n) (ds.take n)
  | _, _, 0, _ => .nil
  | _, _, _ + 1, .nil => .nil
  | _, _, n + 1, .cons h r => .cons h (RpA.take n r)
theorem RpA.drop : ∀ {vs : List V} {ds : List D} (n : Nat), RpA K F vs ds → RpA K F (vs.drop n) (ds.drop n)
  | _, _, 0, r => r
  | _, _, _ + 1, .nil => .nil
  | _, _, n + 1, .cons _ r => RpA.drop n r
theorem RpA.reverse : ∀ {vs : List V} {ds : List D}, RpA K F vs ds → RpA K F vs.reverse ds.reverse
  | _, _, .nil => .nil
  | _, _, .cons h r => by
    rw [List.reverse_cons, List.reverse_cons]
    exact RpA.append (RpA.reverse r) (.cons h .nil)
theorem RpA.set {v : V} {d : D} (h : Rp K F v d) : ∀ {vs : List V} {ds : List D} (i : Nat), RpA K F vs ds → RpA K F (vs.set i v) (ds.set i d)
  | _, _, _, .nil => .nil
  | _, _, 0, .cons _ t => .cons h t
  | _, _, i + 1, .cons q t => .cons q (RpA.set h i t)
theorem RpA.rep {vs : List V} {ds : List D} (h : RpA K F vs ds) : ∀ k : Nat, RpA K F (List.replicate k vs).flatten (List.replicate k ds).flatten
  | 0 => .nil
  | k + 1 => by
    rw [List.replicate_succ, List.replicate_succ, List.flatten_cons, List.flatten_cons]
    exact h.append (RpA.rep h k)
theorem RpA.dropLast {vs : List V} {ds : List D} (h : RpA K F vs ds) : RpA K F vs.dropLast ds.dropLast := by
  rw [List.dropLast_eq_take, List.dropLast_eq_take, h.length]
  exact h.take _
end
theorem SqL_nil {K : MpK} {F : Hp} {a : Addr} (h : F a = none) {xs : List V} (q : SqL K F a xs) : SqL K (fun _ => none) a xs := by
  rcases q with (q | ⟨o, q⟩) | q
  · rw [h] at q; cases q
  · rw [h] at q; cases q
  · exact .inr q

/-! ## the states -/
def cupV (cp : Cup) : HO := .lst [.int cp.1, .int cp.2]
/-- a step: F the things that never change any more, H all; c the cup; W what must not be given away -/
structure Stp (c : Addr) (W : Addr → Prop) (F H F' H' : Hp) : Prop where
  f : Same F F'
  sub : Same F' H'
  h : ∀ b o, b ≠ c → H b = some o → H' b = some o
  w : ∀ b, W b → F' b = none
theorem Stp.trans {c : Addr} {W : Addr → Prop} {F H F1 H1 F2 H2 : Hp} (a : Stp c W F H F1 H1) (b : Stp c W F1 H1 F2 H2) : Stp c W F H F2 H2 :=
  ⟨a.f.trans b.f, b.sub, fun x o n e => b.h x o n (a.h x o n e), b.w⟩
theorem Stp.weak {c : Addr} {W W' : Addr → Prop} {F H F1 H1 : Hp} (a : Stp c W F H F1 H1) (h : ∀ b, W' b → W b) : Stp c W' F H F1 H1 :=
  ⟨a.f, a.sub, a.h, fun b q => a.w b (h b q)⟩
/-- an owned list or dict at a -/
def OwnAt (K : MpK) (F H : Hp) (a : Addr) : D → Prop
  | .list ds => ∃ vs, H a = some (.lst vs) ∧ vs.length ≤ sizeLine ∧ RpA K F vs ds
  | .dict ds => (∃ kvs, H a = some (.dK kvs) ∧ RpK K F kvs ds) ∨ ∃ xs, H a = some (TD K.P K.w a xs) ∧ xs ≠ [] ∧ xs.length ≤ sizeLine ∧ RpT K F xs ds
  | _ => False
def isBox : D → Bool
  | .list _ => true
  | .dict _ => true
  | _ => false
theorem OwnAt.mono {K : MpK} {F H F' H' : Hp} {a : Addr} {d : D} (e : Same F F') (k : ∀ o, H a = some o → H' a = some o) (h : OwnAt K F H a d) : OwnAt K F' H' a d := by
  cases d with
  | list ds => obtain ⟨vs, h1, hl, h2⟩ := h; exact ⟨vs, k _ h1, hl, h2.mono e⟩
  | dict ds =>
    rcases h with ⟨vs, h1, h2⟩ | ⟨vs, h1, hn, hl, h2⟩
    · exact .inl ⟨vs, k _ h1, h2.mono e⟩
    · exact .inr ⟨vs, k _ h1, hn, hl, h2.mono e⟩
  | _ => exact h.elim
structure Pre (K : MpK) (ci : Option Nat) (O : List Nat) (c : Addr) (W : Addr → Prop) (A : Nat → Option Addr) (env : Env) (cp : Cup) (F : Hp) (σ : L2.St) (H : Hp) : Prop where
  sub : Same F H
  cup : H c = some (cupV cp)
  wc : W c
  wh : ∀ b, W b → ∃ o, H b = some o
  wf : ∀ b, W b → F b = none
  sl : ∀ (i : Nat) (d : D), env[i]? = some (some d) → (i ∉ O ∨ A i = none) → ∃ v, σ[i]? = some (some v) ∧ Rp K F v d
  ow : ∀ (i : Nat) (d : D) (a : Addr), env[i]? = some (some d) → i ∈ O → A i = some a → σ[i]? = some (some (.ref a)) ∧ OwnAt K F H a d ∧ W a ∧ a ≠ c
  bx : ∀ (i : Nat) (d : D), env[i]? = some (some d) → i ∈ O → A i = none → isBox d = false
  dj : ∀ (i j : Nat) (a : Addr), i ∈ O → j ∈ O → A i = some a → A j = some a → i = j
  aw : ∀ (i : Nat) (a : Addr), i ∈ O → A i = some a → W a
  cs : ∀ i, ci = some i → σ[i]? = some (some (.ref c)) ∧ i ∉ O ∧ ∀ d, env[i]? ≠ some (some d)
  ln : env.length = σ.length
section
variable {K : MpK} {ci : Option Nat} {O : List Nat} {c : Addr} {W : Addr → Prop} {A : Nat → Option Addr} {env : Env} {cp cp' : Cup} {F F' : Hp} {σ : L2.St} {H H' : Hp}
theorem Pre.step (p : Pre K ci O c W A env cp F σ H) (s : Stp c W F H F' H') (e : H' c = some (cupV cp')) : Pre K ci O c W A env cp' F' σ H' where
  sub := s.sub
  cup := e
  wc := p.wc
  wh := fun b hb => by
    by_cases hc : b = c
    · exact ⟨_, hc ▸ e⟩
    · obtain ⟨o, h⟩ := p.wh b hb
      exact ⟨o, s.h b o hc h⟩
  wf := s.w
  sl := fun i d h1 h2 => by
    obtain ⟨v, h3, h4⟩ := p.sl i d h1 h2
    exact ⟨v, h3, h4.mono s.f⟩
  ow := fun i d a h1 h2 h3 => by
    obtain ⟨q1, q2, q3, q4⟩ := p.ow i d a h1 h2 h3
    exact ⟨q1, q2.mono s.f (fun o => s.h a o q4), q3, q4⟩
  bx := p.bx
  dj := p.dj
  aw := p.aw
  cs := p.cs
  ln := p.ln
theorem Pre.refl (p : Pre K ci O c W A env cp F σ H) : Stp c W F H F H := ⟨Same.refl _, p.sub, fun _ _ _ h => h, p.wf⟩
end

/-! ## what is wanted behind -/
def Aft {α : Type} (E : Str → Hp → Prop) (c : Addr) (W : Addr → Prop) (F H : Hp) (r : Res α) (Q : α → Cup → Hp → Hp → Prop) : Prop := match r with
  | .ok a cp' => ∀ F' H', Stp c W F H F' H' → H' c = some (cupV cp') → Q a cp' F' H'
  | .err e cp' => ∀ F' H', Stp c W F H F' H' → H' c = some (cupV cp') → E e H'
  | .bad => False
section
variable {α β : Type} {E : Str → Hp → Prop} {c : Addr} {W : Addr → Prop} {F H : Hp}
theorem Aft.imp {r : Res α} {Q Q' : α → Cup → Hp → Hp → Prop} (h : Aft E c W F H r Q) (f : ∀ a cp' F' H', Stp c W F H F' H' → H' c = some (cupV cp') → Q a cp' F' H' → Q' a cp' F' H') : Aft E c W F H r Q' := by
  cases r with
  | ok a cp' => exact fun F' H' s e => f a cp' F' H' s e (h F' H' s e)
  | err e cp' => exact h
  | bad => exact h
theorem Aft.bind {r : Res α} {g : α → Cup → Res β} {Q : β → Cup → Hp → Hp → Prop} (h : Aft E c W F H (r.bind g) Q) : Aft E c W F H r fun a cp' F' H' => Aft E c W F' H' (g a cp') Q := by
  cases r with
  | ok a cp' =>
    intro F' H' s e
    have h' : Aft E c W F H (g a cp') Q := h
    show Aft E c W F' H' (g a cp') Q
    generalize g a cp' = r2 at h'
    cases r2 with
    | ok b cp2 => exact fun F2 H2 s2 e2 => h' F2 H2 (s.trans s2) e2
    | err x cp2 => exact fun F2 H2 s2 e2 => h' F2 H2 (s.trans s2) e2
    | bad => exact h'
  | err e cp' => exact h
  | bad => exact h
theorem Aft.now {a : α} {cp : Cup} {Q : α → Cup → Hp → Hp → Prop} (h : Aft E c W F H (.ok a cp) Q) (s : Stp c W F H F H) (e : H c = some (cupV cp)) : Q a cp F H := h F H s e
end

/-- the context: where exceptions go, the cup's slot -/
structure Z where
  E : Str → Hp → Prop
  ci : Option Nat
/-- fresh: a list or dict that nothing else knows -/
def Fr (K : MpK) (H F' H' : Hp) (v : V) (d : D) : Prop := (isBox d = false ∧ Rp K F' v d) ∨ ∃ a, v = .ref a ∧ H a = none ∧ F' a = none ∧ OwnAt K F' H' a d
/-- to be looked at alone -/
def Pk (K : MpK) (c : Addr) (F H : Hp) (v : V) (d : D) : Prop := Rp K F v d ∨ ∃ a, v = .ref a ∧ a ≠ c ∧ OwnAt K F H a d
def tEv (K : MpK) (z : Z) (O : List Nat) (f : Ev) : TE := fun σ H Q => ∃ c W A env cp F, Pre K z.ci O c W A env cp F σ H ∧ Aft z.E c W F H (f env cp) fun d _ F' H' => ∀ v, Rp K F' v d → Q v H'
def tFr (K : MpK) (z : Z) (O : List Nat) (f : Ev) : TE := fun σ H Q => ∃ c W A env cp F, Pre K z.ci O c W A env cp F σ H ∧ Aft z.E c W F H (f env cp) fun d _ F' H' => ∀ v, Fr K H F' H' v d → Q v H'
def tPk (K : MpK) (z : Z) (O : List Nat) (f : Ev) : TE := fun σ H Q => ∃ c W A env cp F, Pre K z.ci O c W A env cp F σ H ∧ Aft z.E c W F H (f env cp) fun d _ F' H' => ∀ v, Pk K c F' H' v d → Q v H'
def tTv (K : MpK) (z : Z) (O : List Nat) (f : Ev) : TT := fun σ H Q => ∃ c W A env cp F, Pre K z.ci O c W A env cp F σ H ∧ Aft z.E c W F H (f env cp) fun d _ F' H' => ∀ b, d = .bool b → Q b H'
structure QE (X : Cx) (z : Z) (O : List Nat) (e : Expr) (f : Ev) : Prop where
  pe : PE X e (tEv X.kk z O f)
structure QF (X : Cx) (z : Z) (O : List Nat) (e : Expr) (f : Ev) : Prop where
  pe : PE X e (tFr X.kk z O f)
structure QP (X : Cx) (z : Z) (O : List Nat) (e : Expr) (f : Ev) : Prop where
  pe : PE X e (tPk X.kk z O f)
theorem PE.to {X : Cx} {e : Expr} {t t' : TE} (h : PE X e t) (k : ∀ σ H Q, t' σ H Q → t σ H Q) : PE X e t' := ⟨fun pins s σ H Q I q => h.run pins s σ H Q I (k _ _ _ q)⟩
theorem PT.to {X : Cx} {e : Expr} {t t' : TT} (h : PT X e t) (k : ∀ σ H Q, t' σ H Q → t σ H Q) : PT X e t' := ⟨fun pins s σ H Q I q => h.run pins s σ H Q I (k _ _ _ q)⟩
theorem PA.to {X : Cx} {e : List Expr} {t t' : TA} (h : PA X e t) (k : ∀ σ H Q, t' σ H Q → t σ H Q) : PA X e t' := ⟨fun pos pins s σ H Q I q => h.run pos pins s σ H Q I (k _ _ _ q)⟩
theorem PS.to {X : Cx} {e : Stmt} {t t' : TS} (h : PS X e t) (k : ∀ Dn σ H, t' Dn σ H → t Dn σ H) : PS X e t' := ⟨fun pins s σ H Dn I q => h.run pins s σ H Dn I (k _ _ _ q)⟩
theorem PSs.to {X : Cx} {e : List Stmt} {t t' : TS} (h : PSs X e t) (k : ∀ Dn σ H, t' Dn σ H → t Dn σ H) : PSs X e t' := ⟨fun pins s σ H Dn I q => h.run pins s σ H Dn I (k _ _ _ q)⟩
theorem PI.to {X : Cx} {tg e : Expr} {t t' : TI} (h : PI X tg e t) (k : ∀ σ H Q, t' σ H Q → t σ H Q) : PI X tg e t' := ⟨fun pins s σ H Q I q => h.run pins s σ H Q I (k _ _ _ q)⟩

/-- what is fresh may be given away -/
theorem Fr.freeze {K : MpK} {c : Addr} {W : Addr → Prop} {F H F' H' : Hp} {v : V} {d : D} (s : Stp c W F H F' H') (hw : ∀ b, W b → ∃ o, H b = some o) (r : Fr K H F' H' v d) :
    ∃ F2, Stp c W F H F2 H' ∧ Same F' F2 ∧ Rp K F2 v d := by
  rcases r with ⟨_, r⟩ | ⟨a, rfl, hn, hf, ho⟩
  · exact ⟨F', s, Same.refl _, r⟩
  · have go : ∀ o, H' a = some o → (Same F' (upd F' a o)) ∧ Stp c W F H (upd F' a o) H' := fun o ho => by
      have sm : Same F' (upd F' a o) := fun b x e => by
        rw [upd_ne (ne_of_none e hf)]
        exact e
      refine ⟨sm, s.f.trans sm, fun b x e => ?_, s.h, fun b hb => ?_⟩
      · by_cases q : b = a
        · subst q; rw [upd_same] at e; cases e; exact ho
        · rw [upd_ne q] at e; exact s.sub _ _ e
      · obtain ⟨o', e⟩ := hw b hb
        rw [upd_ne (ne_of_none e hn)]
        exact s.w b hb
    cases d with
    | list ds =>
      obtain ⟨vs, h1, hl, h2⟩ := ho
      obtain ⟨sm, st⟩ := go _ h1
      exact ⟨_, st, sm, .lst upd_same hl (h2.mono sm)⟩
    | dict ds =>
      rcases ho with ⟨vs, h1, h2⟩ | ⟨vs, h1, hn, hl, h2⟩
      · obtain ⟨sm, st⟩ := go _ h1
        exact ⟨_, st, sm, .dct upd_same (h2.mono sm)⟩
      · obtain ⟨sm, st⟩ := go _ h1
        exact ⟨_, st, sm, .dctT upd_same hn hl (h2.mono sm)⟩
    | _ => exact ho.elim
theorem QF.e {X : Cx} {z : Z} {O : List Nat} {e : Expr} {f : Ev} (h : QF X z O e f) : QE X z O e f := ⟨PE.to h.pe fun σ H Q ⟨c, W, A, env, cp, F, p, q⟩ => ⟨c, W, A, env, cp, F, p, by
  generalize f env cp = r at q
  cases r with
  | ok d cp' =>
    intro F' H' s e v r
    obtain ⟨F2, s2, _, r2⟩ := r.freeze s p.wh
    exact q F2 H' s2 e v r2
  | err x cp' => exact q
  | bad => exact q⟩⟩
theorem QE.p {X : Cx} {z : Z} {O : List Nat} {e : Expr} {f : Ev} (h : QE X z O e f) : QP X z O e f := ⟨PE.to h.pe fun σ H Q ⟨c, W, A, env, cp, F, p, q⟩ => ⟨c, W, A, env, cp, F, p, q.imp fun _ _ _ _ _ _ k v r => k v (.inl r)⟩⟩
/-- an expression without a list or dict as its value -/
theorem QE.f {X : Cx} {z : Z} {O : List Nat} {e : Expr} {f : Ev} (h : QE X z O e f) (nb : ∀ env cp d cp', f env cp = .ok d cp' → isBox d = false) : QF X z O e f := ⟨PE.to h.pe fun σ H Q ⟨c, W, A, env, cp, F, p, q⟩ => ⟨c, W, A, env, cp, F, p, by
  have n := nb env cp
  generalize f env cp = r at q n
  cases r with
  | ok d cp' => exact fun F' H' s e v r => q F' H' s e v (.inl ⟨n d cp' rfl, r⟩)
  | err x cp' => exact q
  | bad => exact q⟩⟩

/-! ## names, constants -/
def eNm (i : Nat) : Ev := fun env cp => match env[i]? with
  | some (some d) => .ok d cp
  | _ => .bad
def eC (d : D) : Ev := fun _ cp => .ok d cp
section
variable {X : Cx} {z : Z} {O : List Nat}
theorem q_nm (i : Nat) {x : Str} {pos : Pos} (hO : i ∉ O := by decide) (hN : X.N[i]? = some x := by rfl) (hv : Vis X.env.scope x := by first | exact Or.inl rfl | exact Or.inr (Or.inl rfl) | exact Or.inr (Or.inr rfl)) (hd : (x == ("__debug__" : Str)) = false := by decide)
    (hcd : (x == ("__classdict__" : Str)) = false := by decide) : QE X z O (.Name x pos) (eNm i) := ⟨PE.to (pe_var hN hv hd hcd) fun σ H Q ⟨c, W, A, env, cp, F, p, q⟩ => by
  unfold eNm at q
  cases e : env[i]? with
  | none => rw [e] at q; exact q.elim
  | some o =>
    cases o with
    | none => rw [e] at q; exact q.elim
    | some d =>
      rw [e] at q
      obtain ⟨v, h1, h2⟩ := p.sl i d e (.inl hO)
      exact ⟨v, h1, q F H p.refl p.cup v h2⟩⟩
theorem q_pk (i : Nat) {x : Str} {pos : Pos} (hN : X.N[i]? = some x := by rfl) (hv : Vis X.env.scope x := by first | exact Or.inl rfl | exact Or.inr (Or.inl rfl) | exact Or.inr (Or.inr rfl)) (hd : (x == ("__debug__" : Str)) = false := by decide)
    (hcd : (x == ("__classdict__" : Str)) = false := by decide) : QP X z O (.Name x pos) (eNm i) := ⟨PE.to (pe_var hN hv hd hcd) fun σ H Q ⟨c, W, A, env, cp, F, p, q⟩ => by
  unfold eNm at q
  cases e : env[i]? with
  | none => rw [e] at q; exact q.elim
  | some o =>
    cases o with
    | none => rw [e] at q; exact q.elim
    | some d =>
      rw [e] at q
      by_cases hO : i ∈ O
      · cases ha : A i with
        | none =>
          obtain ⟨v, h1, h2⟩ := p.sl i d e (.inr ha)
          exact ⟨v, h1, q F H p.refl p.cup v (.inl h2)⟩
        | some a =>
          obtain ⟨h1, h2, h3, h4⟩ := p.ow i d a e hO ha
          exact ⟨_, h1, q F H p.refl p.cup _ (.inr ⟨a, rfl, h4, h2⟩)⟩
      · obtain ⟨v, h1, h2⟩ := p.sl i d e (.inl hO)
        exact ⟨v, h1, q F H p.refl p.cup v (.inl h2)⟩⟩
theorem q_cst {e : Expr} {d : D} {v : V} (h : PE X e (tC v)) (r : ∀ F, Rp X.kk F v d) : QE X z O e (eC d) :=
  ⟨PE.to h fun σ H Q ⟨c, W, A, env, cp, F, p, q⟩ => q F H p.refl p.cup v (r F)⟩
theorem q_int {i j pos} : QE X z O (.Constant (.int i) j pos) (eC (.int i)) := q_cst pe_int fun _ => .int i
theorem q_str {i j pos} (h : sOk i := by exact ⟨by decide +kernel, by decide +kernel⟩) : QE X z O (.Constant (.str i) j pos) (eC (.str i)) := q_cst pe_str fun _ => .str i h
theorem q_bl {i j pos} : QE X z O (.Constant (.bool i) j pos) (eC (.bool i)) := q_cst pe_bl fun _ => .bl i
theorem q_non {j pos} : QE X z O (.Constant .none j pos) (eC .none) := q_cst pe_non fun _ => .non
theorem q_gint {x : Str} {i : Int} {u : Value} {pos : Pos} (hm : X.mg x = some u) (r : RelV (.int i) u) (hg : Gl X x := by rfl) (hd : (x == ("__debug__" : Str)) = false := by decide) : QE X z O (.Name x pos) (eC (.int i)) := q_cst (pe_glob hg hm r hd) fun _ => .int i
theorem q_gstr {x : Str} {i : Str} {u : Value} {pos : Pos} (hm : X.mg x = some u) (r : RelV (.str i) u) (h : sOk i := by exact ⟨by decide +kernel, by decide +kernel⟩) (hg : Gl X x := by rfl) (hd : (x == ("__debug__" : Str)) = false := by decide) : QE X z O (.Name x pos) (eC (.str i)) := q_cst (pe_glob hg hm r hd) fun _ => .str i h
end
end MP
namespace MP
open PySem PySem.Spec PyProof.Rows L2

/-! ## operators by values -/
structure Sit (c : Addr) (W : Addr → Prop) (F H : Hp) : Prop where
  sub : Same F H
  wc : W c
  wh : ∀ b, W b → ∃ o, H b = some o
  wf : ∀ b, W b → F b = none
section
variable {K : MpK} {c : Addr} {W : Addr → Prop} {F H : Hp}
theorem Pre.sit {ci : Option Nat} {O : List Nat} {A : Nat → Option Addr} {env : Env} {cp : Cup} {σ : L2.St} (p : Pre K ci O c W A env cp F σ H) : Sit c W F H := ⟨p.sub, p.wc, p.wh, p.wf⟩
theorem Sit.refl (p : Sit c W F H) : Stp c W F H F H := ⟨Same.refl _, p.sub, fun _ _ _ h => h, p.wf⟩
theorem Sit.new (p : Sit c W F H) {q : Addr} {o : HO} (h : H q = none) : Stp c W F H F (upd H q o) :=
  ⟨Same.refl _, fun b x e => by rw [upd_ne (ne_of_none (p.sub _ _ e) h)]; exact p.sub _ _ e, fun b x _ e => by rw [upd_ne (ne_of_none e h)]; exact e, p.wf⟩
theorem Sit.keepc (p : Sit c W F H) {q : Addr} {o : HO} (h : H q = none) : (upd H q o) c = H c := by
  obtain ⟨x, e⟩ := p.wh c p.wc
  rw [upd_ne (ne_of_none e h)]
theorem Sit.free (p : Sit c W F H) {q : Addr} (h : H q = none) : F q = none := by
  cases e : F q with
  | none => rfl
  | some o => rw [p.sub _ _ e] at h; cases h
/-- the tuple just laid, known from now on -/
theorem Sit.newF (p : Sit c W F H) {q : Addr} {o : HO} (h : H q = none) : Stp c W F H (upd F q o) (upd H q o) :=
  ⟨fun b x e => by rw [upd_ne (ne_of_none e (p.free h))]; exact e,
   fun b x e => by
    by_cases hb : b = q
    · subst hb; rw [upd_same] at e ⊢; exact e
    · rw [upd_ne hb] at e ⊢; exact p.sub _ _ e,
   fun b x _ e => by rw [upd_ne (ne_of_none e h)]; exact e,
   fun b hb => by
    obtain ⟨x, e⟩ := p.wh b hb
    rw [upd_ne (ne_of_none e h)]; exact p.wf b hb⟩
theorem Sit.step {F' H' : Hp} {cp : Cup} (p : Sit c W F H) (s : Stp c W F H F' H') (e : H' c = some (cupV cp)) : Sit c W F' H' :=
  ⟨s.sub, p.wc, fun b hb => by
    by_cases hc : b = c
    · exact ⟨_, hc ▸ e⟩
    · obtain ⟨o, h⟩ := p.wh b hb
      exact ⟨o, s.h b o hc h⟩, s.w⟩
theorem Pk.step {F' H' : Hp} {v : V} {d : D} (s : Stp c W F H F' H') (r : Pk K c F H v d) : Pk K c F' H' v d := by
  rcases r with r | ⟨a, e, n, o⟩
  · exact .inl (r.mono s.f)
  · exact .inr ⟨a, e, n, o.mono s.f fun o => s.h a o n⟩
theorem Pk.list {v : V} {ds : List D} (sub : Same F H) (r : Pk K c F H v (.list ds)) : ∃ a vs, v = .ref a ∧ H a = some (.lst vs) ∧ vs.length ≤ sizeLine ∧ RpA K F vs ds := by
  rcases r with r | ⟨a, e, n, vs, h1, hl, h2⟩
  · cases r with
    | lst h l r => exact ⟨_, _, rfl, sub _ _ h, l, r⟩
  · exact ⟨a, vs, e, h1, hl, h2⟩
theorem Pk.dict {v : V} {ds : List (D × D)} (sub : Same F H) (r : Pk K c F H v (.dict ds)) : ∃ a, v = .ref a ∧ ((∃ vs, H a = some (.dK vs) ∧ RpK K F vs ds) ∨ ∃ xs, H a = some (TD K.P K.w a xs) ∧ xs ≠ [] ∧ xs.length ≤ sizeLine ∧ RpT K F xs ds) := by
  rcases r with r | ⟨a, e, n, h⟩
  · cases r with
    | dct h r => exact ⟨_, rfl, .inl ⟨_, sub _ _ h, r⟩⟩
    | dctT h n l r => exact ⟨_, rfl, .inr ⟨_, sub _ _ h, n, l, r⟩⟩
  · exact ⟨a, e, h⟩
/-- all keys are ints and texts -/
def flatKeys (ds : List (D × D)) : Bool := ds.all fun kv => match kv.1 with
  | .tuple _ => false
  | _ => true
theorem RpT.notFlat {xs : List (List Key × Addr × Value)} {ds : List (D × D)} (r : RpT K F xs ds) (n : xs ≠ []) : flatKeys ds = false := by
  cases r with
  | nil => exact absurd rfl n
  | cons _ _ _ _ _ _ => rfl
theorem Pk.dictK {v : V} {ds : List (D × D)} (sub : Same F H) (r : Pk K c F H v (.dict ds)) (k : flatKeys ds = true) : ∃ a vs, v = .ref a ∧ H a = some (.dK vs) ∧ RpK K F vs ds := by
  obtain ⟨a, e, ⟨vs, h1, h2⟩ | ⟨xs, h1, n, l, h2⟩⟩ := r.dict sub
  · exact ⟨a, vs, e, h1, h2⟩
  · rw [h2.notFlat n] at k; cases k
theorem Pk.flat {v : V} {d : D} (h : isBox d = false) (r : Pk K c F H v d) : Rp K F v d := by
  rcases r with r | ⟨a, e, n, o⟩
  · exact r
  · cases d with
    | list => cases h
    | dict => cases h
    | _ => exact o.elim
end

/-- op soundly stands for pf: operands looked at alone, a fresh value -/
def OpS (X : Cx) (pf : Value → Value → Sem Value) (op : D → D → Option D) : Prop :=
  ∃ r : R2, OpR X pf r ∧ ∀ (c : Addr) (W : Addr → Prop) (F H : Hp) (x y : V) (a b d : D) (Q : VK), Sit c W F H → Pk X.kk c F H x a → Pk X.kk c F H y b → op a b = some d →
    (∀ F' H' v, Stp c W F H F' H' → H' c = H c → Fr X.kk H F' H' v d → Q v H') → r x y H Q
def eBin (op : D → D → Option D) (a b : Ev) : Ev := fun env cp => (a env cp).bind fun x cp1 => (b env cp1).bind fun y cp2 => match op x y with
  | some d => .ok d cp2
  | none => .bad
section
variable {X : Cx} {z : Z} {O : List Nat}
theorem bin_go {pf : Value → Value → Sem Value} {op : D → D → Option D} (h : OpS X pf op) {fa fb : Ev} : ∃ r : R2, OpR X pf r ∧ ∀ σ H Q, tFr X.kk z O (eBin op fa fb) σ H Q → tOp r (tPk X.kk z O fa) (tPk X.kk z O fb) σ H Q := by
  obtain ⟨r, hr, go⟩ := h
  refine ⟨r, hr, ?_⟩
  rintro σ H Q ⟨c, W, A, env, cp, F, p, q⟩
  refine ⟨c, W, A, env, cp, F, p, (Aft.bind q).imp fun a cp1 F1 H1 s1 e1 q1 v1 r1 => ⟨c, W, A, env, cp1, F1, p.step s1 e1, (Aft.bind q1).imp fun b cp2 F2 H2 s2 e2 q2 v2 r2 => ?_⟩⟩
  cases e : op a b with
  | none => simp only [e] at q2; exact q2.elim
  | some d =>
    simp only [e] at q2
    refine go c W F2 H2 v1 v2 a b d Q ((p.sit.step s1 e1).step s2 e2) (r1.step s2) r2 e fun F' H' v s k f => q2 F' H' s (k.trans e2) v ?_
    rcases f with f | ⟨a, h1, h2, h3, h4⟩
    · exact .inl f
    · refine .inr ⟨a, h1, ?_, h3, h4⟩
      cases e : H a with
      | none => rfl
      | some o =>
        by_cases hc : a = c
        · subst hc; rw [e2] at h2; cases h2
        · rw [(s1.trans s2).h a o hc e] at h2; cases h2
theorem q_bin {o : Operator} {op : D → D → Option D} {a b : Expr} {fa fb : Ev} {pos : Pos} (h : OpS X (binaryOp o) op) (ha : QP X z O a fa) (hb : QP X z O b fb) : QF X z O (.BinOp a o b pos) (eBin op fa fb) := by
  obtain ⟨r, hr, go⟩ := bin_go (z := z) (O := O) h (fa := fa) (fb := fb)
  exact ⟨PE.to (pe_op hr ha.pe hb.pe) go⟩
theorem q_cmp {o : CmpOp} {op : D → D → Option D} {a b : Expr} {fa fb : Ev} {pos : Pos} (h : OpS X (compareOp o) op) (ha : QP X z O a fa) (hb : QP X z O b fb) (hm : behindInMarks o b = false := by first | exact nomark _ | rfl) : QF X z O (.Compare a [o] [b] pos) (eBin op fa fb) := by
  obtain ⟨r, hr, go⟩ := bin_go (z := z) (O := O) h (fa := fa) (fb := fb)
  exact ⟨PE.to (pe_cmpR hr ha.pe hb.pe hm) go⟩
end

/-! ### which operators -/
def dInt (g : Int → Int → Option D) : D → D → Option D
  | .int i, .int j => g i j
  | _, _ => none
theorem fr_flat {K : MpK} {H F' H' : Hp} {v : V} {d : D} (r : Rp K F' v d) (h : isBox d = false := by rfl) : Fr K H F' H' v d := .inl ⟨h, r⟩
section
variable {X : Cx}
theorem ops_int {pf : Value → Value → Sem Value} {C : Int → Int → Prop} {g : Int → Int → V} {gd : Int → Int → Option D} (h : OpR X pf (rI C g)) (k : ∀ i j d, gd i j = some d → C i j ∧ (∀ F, Rp X.kk F (g i j) d) ∧ isBox d = false) : OpS X pf (dInt gd) := by
  refine ⟨_, h, fun c W F H x y a b d Q st ra rb e q => ?_⟩
  cases a with
  | int i =>
    cases b with
    | int j =>
      obtain ⟨k1, k2, k3⟩ := k i j d e
      have ra := ra.flat rfl
      have rb := rb.flat rfl
      cases ra; cases rb
      exact ⟨i, j, rfl, rfl, k1, q F H _ st.refl rfl (.inl ⟨k3, k2 F⟩)⟩
    | _ => cases e
  | _ => cases e
theorem opr0 {pf : Value → Value → Sem Value} {g : Int → Int → V} (h : OpR X pf (rI0 g)) : OpR X pf (rI (fun _ _ => True) g) := fun pins s σ H x y v u Q I r1 r2 ⟨i, j, e1, e2, _, q⟩ => h pins s σ H x y v u Q I r1 r2 ⟨i, j, e1, e2, q⟩
theorem OpS.or {pf : Value → Value → Sem Value} {f g : D → D → Option D} (h : OpS X pf f) (k : OpS X pf g) : OpS X pf (fun a b => (f a b).orElse fun _ => g a b) := by
  obtain ⟨r, hr, go⟩ := h
  obtain ⟨r', hr', go'⟩ := k
  refine ⟨_, hr.or hr', fun c W F H x y a b d Q st ra rb e q => ?_⟩
  cases e1 : f a b with
  | some d' =>
    dsimp only at e
    rw [e1] at e
    exact .inl (go c W F H x y a b d Q st ra rb (e1.trans e) q)
  | none =>
    dsimp only at e
    rw [e1] at e
    exact .inr (go' c W F H x y a b d Q st ra rb e q)
theorem OpS.to {pf : Value → Value → Sem Value} {f g : D → D → Option D} (h : OpS X pf f) (k : ∀ a b d, g a b = some d → f a b = some d) : OpS X pf g := by
  obtain ⟨r, hr, go⟩ := h
  exact ⟨r, hr, fun c W F H x y a b d Q st ra rb e q => go c W F H x y a b d Q st ra rb (k a b d e) q⟩

/-- lengths that Python's lines allow -/
abbrev okLen (n : Nat) : Bool := decide (n ≤ 16777216)
theorem okLen_le {n : Nat} (h : okLen n = true) : n ≤ sizeLine := by rw [sizeLine_eq]; exact of_decide_eq_true h
def dAdd : D → D → Option D
  | .int i, .int j => some (.int (i + j))
  | .str x, .str y => if okLen (x.length + y.length) then some (.str (x ++ y)) else none
  | .list xs, .list ys => if okLen (xs.length + ys.length) then some (.list (xs ++ ys)) else none
  | .tuple xs, .tuple ys => if okLen (xs.length + ys.length) then some (.tuple (xs ++ ys)) else none
  | _, _ => none
theorem Rp.tupI {K : MpK} {F : Hp} {v : V} {ds : List D} (r : Rp K F v (.tuple ds)) : ∃ a vs, v = .ref a ∧ SqT K F a vs ∧ vs.length ≤ sizeLine ∧ RpA K F vs ds := by
  cases r with
  | tup h l r => exact ⟨_, _, rfl, h, l, r⟩
/-- a new list behind -/
theorem fr_new {c : Addr} {W : Addr → Prop} {K : MpK} {F H : Hp} {p : Addr} {vs : List V} {ds : List D} (st : Sit c W F H) (hp : H p = none) (l : vs.length ≤ sizeLine) (r : RpA K F vs ds) : Fr K H F (upd H p (.lst vs)) (.ref p) (.list ds) :=
  .inr ⟨p, rfl, hp, st.free hp, vs, upd_same, l, r⟩
theorem fr_newT {c : Addr} {W : Addr → Prop} {K : MpK} {F H : Hp} {p : Addr} {vs : List V} {ds : List D} (st : Sit c W F H) (hp : H p = none) (l : vs.length ≤ sizeLine) (r : RpA K F vs ds) : Fr K H (upd F p (.tup vs)) (upd H p (.tup vs)) (.ref p) (.tuple ds) :=
  .inl ⟨rfl, .tup (.inl (.inl upd_same)) l (r.mono (st.newF (o := .tup vs) hp).f)⟩
theorem strOk_app {x y : Str} (h : PyData.strOk x = true) (k : PyData.strOk y = true) : PyData.strOk (x ++ y) = true := by
  have h' : x.cps.all (· < 0x110000) = true := h
  have k' : y.cps.all (· < 0x110000) = true := k
  show (x.cps ++ y.cps).all (· < 0x110000) = true
  rw [Array.all_append, h', k']
  rfl
theorem Str_len_app (x y : Str) : (x ++ y).length = x.length + y.length := Array.size_append
theorem ops_add : OpS X (binaryOp .Add) dAdd := by
  refine OpS.to (f := fun a b => (dInt (fun i j => some (.int (i + j))) a b).orElse fun _ => ((fun a b => match a, b with | .str x, .str y => if okLen (x.length + y.length) then some (.str (x ++ y)) else none | _, _ => none : D → D → Option D) a b).orElse fun _ =>
    ((fun a b => match a, b with | .list xs, .list ys => if okLen (xs.length + ys.length) then some (.list (xs ++ ys)) else none | _, _ => none : D → D → Option D) a b).orElse fun _ =>
    ((fun a b => match a, b with | .tuple xs, .tuple ys => if okLen (xs.length + ys.length) then some (.tuple (xs ++ ys)) else none | _, _ => none : D → D → Option D) a b)) (OpS.or ?_ (OpS.or ?_ (OpS.or ?_ ?_))) ?_
  · exact ops_int (opr0 op_add) fun i j d e => by cases e; exact ⟨trivial, fun F => .int _, rfl⟩
  · refine ⟨_, op_add_str, fun c W F H x y a b d Q st ra rb e q => ?_⟩
    cases a with
    | str i =>
      cases b with
      | str j =>
        have ra := ra.flat rfl
        have rb := rb.flat rfl
        cases ra with
        | str _ s1 =>
        cases rb with
        | str _ s2 =>
        dsimp only at e
        split at e
        · rename_i h
          cases e
          exact ⟨i, j, rfl, rfl, okLen_le h, q F H _ st.refl rfl (fr_flat (.str _ ⟨strOk_app s1.1 s2.1, by rw [Str_len_app]; exact okLen_le h⟩))⟩
        · cases e
      | _ => cases e
    | _ => cases e
  · refine ⟨_, op_cat, fun c W F H x y a b d Q st ra rb e q => ?_⟩
    cases a with
    | list i =>
      cases b with
      | list j =>
        obtain ⟨a1, v1, rfl, h1, l1, r1⟩ := ra.list st.sub
        obtain ⟨a2, v2, rfl, h2, l2, r2⟩ := rb.list st.sub
        dsimp only at e
        split at e
        · rename_i h
          cases e
          exact ⟨a1, a2, v1, v2, rfl, rfl, h1, h2, by rw [r1.length, r2.length]; exact okLen_le h, fun p hp => q F _ _ (st.new hp) (st.keepc hp) (fr_new st hp (by rw [List.length_append, r1.length, r2.length]; exact okLen_le h) (r1.append r2))⟩
        · cases e
      | _ => cases e
    | _ => cases e
  · refine ⟨_, op_catA, fun c W F H x y a b d Q st ra rb e q => ?_⟩
    cases a with
    | tuple i =>
      cases b with
      | tuple j =>
        obtain ⟨a1, v1, rfl, h1, l1, r1⟩ := (ra.flat rfl).tupI
        obtain ⟨a2, v2, rfl, h2, l2, r2⟩ := (rb.flat rfl).tupI
        dsimp only at e
        split at e
        · rename_i h
          cases e
          refine ⟨a1, a2, v1, v2, rfl, rfl, SqT_same st.sub h1, SqT_same st.sub h2, by rw [r1.length, r2.length]; exact okLen_le h, fun z => ?_, fun z1 z => ?_, fun z1 z2 p hp => ?_⟩
          · subst z
            cases r1
            exact q F H _ st.refl rfl (fr_flat (.tup h2 l2 r2))
          · subst z
            cases r2
            rw [List.append_nil] at q
            exact q F H _ st.refl rfl (fr_flat (.tup h1 l1 r1))
          · exact q _ _ _ (st.newF hp) (st.keepc hp) (fr_newT st hp (by rw [List.length_append, r1.length, r2.length]; exact okLen_le h) (r1.append r2))
        · cases e
      | _ => cases e
    | _ => cases e
  · intro a b d e
    cases a <;> cases b <;> first | exact e | (cases e; done) | (dsimp only [dAdd] at e; dsimp only [dInt, Option.orElse]; rw [e])
end
end MP
namespace MP
open PySem PySem.Spec PyProof.Rows L2
/-! ### == and != and < of data -/
/-- data without dicts, at most so deep -/
def shp (d : D) : Bool := d.canLay0 && decide (d.depth ≤ 64)
section
variable {K : MpK} {F H : Hp}
mutual
theorem Rp.dp (sub : Same F H) : ∀ {v : V} {d : D}, Rp K F v d → d.canLay0 = true → Dp K H v d
  | _, _, .non, _ => .non
  | _, _, .bl b, _ => .bl b
  | _, _, .int i, _ => .int i
  | _, _, .str x _, _ => .str x
  | _, _, .lst h _ r, k => .lst (.inl (.inl (sub _ _ h))) (RpA.dp sub r (by simpa [PyData.canLay0] using k))
  | _, _, .tup h _ r, k => .tup (SqT_same sub h) (RpA.dp sub r (by simpa [PyData.canLay0] using k))
  | _, _, .dct h r, k => by simp [PyData.canLay0] at k
theorem RpA.dp (sub : Same F H) : ∀ {vs : List V} {ds : List D}, RpA K F vs ds → PyData.canLayAll0 ds = true → DpAll K H vs ds
  | _, _, .nil, _ => .nil
  | _, _, .cons h r, k => by
    have k' := Bool.and_eq_true_iff.mp (by simpa only [PyData.canLayAll0] using k)
    exact .cons (Rp.dp sub h k'.1) (RpA.dp sub r k'.2)
end
theorem Pk.dp {c : Addr} {v : V} {d : D} (sub : Same F H) (r : Pk K c F H v d) (k : d.canLay0 = true) : Dp K H v d := by
  rcases r with r | ⟨a, rfl, n, o⟩
  · exact r.dp sub k
  · cases d with
    | list ds =>
      obtain ⟨vs, h1, hl, h2⟩ := o
      exact .lst (.inl (.inl h1)) (h2.dp sub (by simpa [PyData.canLay0] using k))
    | dict ds => simp [PyData.canLay0] at k
    | _ => exact o.elim
end
def dEq (a b : D) : Option D := if shp a && shp b then some (.bool (PyData.eqv a b)) else none
def dNe (a b : D) : Option D := if shp a && shp b then some (.bool (!PyData.eqv a b)) else none
def cmpOk (a b : D) : Bool := shp a && shp b && PySem.W.alike a b && (match a with | .none => false | _ => true)
def dLt (a b : D) : Option D := if cmpOk a b then some (.bool (PySem.W.dataLt a b)) else none
def dGt (a b : D) : Option D := if cmpOk a b then some (.bool (PySem.W.dataLt b a)) else none
def dLe (a b : D) : Option D := if cmpOk a b then some (.bool (!PySem.W.dataLt b a)) else none
def dGe (a b : D) : Option D := if cmpOk a b then some (.bool (!PySem.W.dataLt a b)) else none
theorem if_some {p : Prop} [Decidable p] {a d : D} (h : (if p then some a else none) = some d) : p ∧ a = d := by
  split at h
  · rename_i q
    exact ⟨q, Option.some.inj h⟩
  · cases h
section
variable {X : Cx}
theorem ops_eq (hu : X.A.units + 65 < cLine) : OpS X (compareOp .Eq) dEq := by
  refine ⟨_, op_eqD (by omega), fun c W F H x y a b d Q st ra rb e q => ?_⟩
  obtain ⟨h, rfl⟩ := if_some e
  obtain ⟨h1, h2⟩ := Bool.and_eq_true_iff.mp h
  exact ⟨a, b, ra.dp st.sub (Bool.and_eq_true_iff.mp h1).1, rb.dp st.sub (Bool.and_eq_true_iff.mp h2).1, h1, h2, q F H _ st.refl rfl (fr_flat (.bl _))⟩
theorem ops_ne (hu : X.A.units + 65 < cLine) : OpS X (compareOp .NotEq) dNe := by
  refine ⟨_, op_neD (by omega), fun c W F H x y a b d Q st ra rb e q => ?_⟩
  obtain ⟨h, rfl⟩ := if_some e
  obtain ⟨h1, h2⟩ := Bool.and_eq_true_iff.mp h
  exact ⟨a, b, ra.dp st.sub (Bool.and_eq_true_iff.mp h1).1, rb.dp st.sub (Bool.and_eq_true_iff.mp h2).1, h1, h2, q F H _ st.refl rfl (fr_flat (.bl _))⟩
def rCmpD (K : MpK) (g : D → D → Bool) : R2 := fun x y H Q => ∃ d e, Dp K H x d ∧ Dp K H y e ∧ cmpOk d e = true ∧ Q (.bl (g d e)) H
theorem cmpOk_of {a b : D} (h : cmpOk a b = true) : a.canLay0 = true ∧ b.canLay0 = true ∧ PySem.W.alike a b = true ∧ (a ≠ PyData.none) ∧ a.depth ≤ 64 := by
  unfold cmpOk at h
  obtain ⟨h, h4⟩ := Bool.and_eq_true_iff.mp h
  obtain ⟨h, h3⟩ := Bool.and_eq_true_iff.mp h
  obtain ⟨h1, h2⟩ := Bool.and_eq_true_iff.mp h
  obtain ⟨h1, h5⟩ := Bool.and_eq_true_iff.mp h1
  exact ⟨h1, (Bool.and_eq_true_iff.mp h2).1, h3, (fun z => by subst z; cases h4), of_decide_eq_true h5⟩
theorem ops_cmpD {o : CmpOp} {g : D → D → Bool} (hu : X.A.units + 65 < cLine)
    (h : ∀ (pins : List (Addr × Obj)) (s : Shared) (a b : Value) (da db : D) (as bs : List Addr) (Q : Value → Shared → Prop), Reads s.heap a da as → Reads s.heap b db bs → PySem.W.alike da db = true → da ≠ .none → X.A.units + min da.depth db.depth < cLine → Q (.bool (g da db)) s →
      wpAny (model X.prog X.w) X.A (compareOp o a b) Q X.xe s) : OpS X (compareOp o) (fun a b => if cmpOk a b then some (.bool (g a b)) else none) := by
  refine ⟨rCmpD X.kk g, ?_, fun c W F H x y a b d Q st ra rb e q => ?_⟩
  · intro pins s σ H x y v u Q I rx ry ⟨d, e, h1, h2, k, q⟩
    obtain ⟨k1, k2, k3, k4, k5⟩ := cmpOk_of k
    obtain ⟨as, r1⟩ := Dp.reads I d x v h1 rx
    obtain ⟨bs, r2⟩ := Dp.reads I e y u h2 ry
    exact h pins s v u d e as bs _ r1 r2 k3 k4 (by have := Nat.min_le_left d.depth e.depth; omega) ⟨.bl _, H, I, rfl, q⟩
  · obtain ⟨h, rfl⟩ := if_some e
    obtain ⟨k1, k2, k3, k4, k5⟩ := cmpOk_of h
    exact ⟨a, b, ra.dp st.sub k1, rb.dp st.sub k2, h, q F H _ st.refl rfl (fr_flat (.bl _))⟩
theorem ops_lt (hu : X.A.units + 65 < cLine) : OpS X (compareOp .Lt) dLt := ops_cmpD hu fun _ _ _ _ _ _ _ _ _ ra rb h hn hu hq => PySem.W.lt_data ra rb h hn hu hq
theorem ops_gt (hu : X.A.units + 65 < cLine) : OpS X (compareOp .Gt) dGt := ops_cmpD (g := fun a b => PySem.W.dataLt b a) hu fun _ _ _ _ _ _ _ _ _ ra rb h hn hu hq => PySem.W.gt_data ra rb h hn hu hq
theorem ops_le (hu : X.A.units + 65 < cLine) : OpS X (compareOp .LtE) dLe := ops_cmpD (g := fun a b => !PySem.W.dataLt b a) hu fun _ _ _ _ _ _ _ _ _ ra rb h hn hu hq => PySem.W.le_data ra rb h hn hu hq
theorem ops_ge (hu : X.A.units + 65 < cLine) : OpS X (compareOp .GtE) dGe := ops_cmpD (g := fun a b => !PySem.W.dataLt a b) hu fun _ _ _ _ _ _ _ _ _ ra rb h hn hu hq => PySem.W.ge_data ra rb h hn hu hq

/-! ### arithmetic -/
def dSub : D → D → Option D := dInt fun i j => some (.int (i - j))
theorem ops_sub : OpS X (binaryOp .Sub) dSub := ops_int (opr0 op_sub) fun i j d e => by cases e; exact ⟨trivial, fun F => .int _, rfl⟩
def okMul (i j : Int) : Bool := (decide (-18446744073709551616 < i) && decide (i < 18446744073709551616)) || (decide (-18446744073709551616 < j) && decide (j < 18446744073709551616))
def dMulI : D → D → Option D := dInt fun i j => if okMul i j then some (.int (i * j)) else none
theorem ops_mulI : OpS X (binaryOp .Mult) dMulI := ops_int op_mul fun i j d e => by
  obtain ⟨h, rfl⟩ := if_some e
  refine ⟨?_, fun F => .int _, rfl⟩
  unfold okMul at h
  simp only [Bool.or_eq_true, Bool.and_eq_true, decide_eq_true_eq] at h
  exact h
def dDiv : D → D → Option D := dInt fun i j => if decide (0 < j) && decide (j < 1073741824) then some (.int (i / j)) else none
theorem ops_div : OpS X (binaryOp .FloorDiv) dDiv := ops_int op_fdiv fun i j d e => by
  obtain ⟨h, rfl⟩ := if_some e
  simp only [Bool.and_eq_true, decide_eq_true_eq] at h
  exact ⟨h, fun F => .int _, rfl⟩
def dMod : D → D → Option D := dInt fun i j => if decide (0 < j) then some (.int (i % j)) else none
theorem ops_mod : OpS X (binaryOp .Mod) dMod := ops_int op_mod fun i j d e => by
  obtain ⟨h, rfl⟩ := if_some e
  simp only [decide_eq_true_eq] at h
  exact ⟨h, fun F => .int _, rfl⟩
def dPow : D → D → Option D := dInt fun i j => if decide (0 ≤ j) && decide (j ≤ 1000000) && decide (i.natAbs < 18446744073709551616) then some (.int (i ^ j.toNat)) else none
theorem ops_pow : OpS X (binaryOp .Pow) dPow := ops_int op_pow fun i j d e => by
  obtain ⟨h, rfl⟩ := if_some e
  simp only [Bool.and_eq_true, decide_eq_true_eq] at h
  exact ⟨⟨h.1.1, h.1.2, h.2⟩, fun F => .int _, rfl⟩
/-! list * int, tuple * int -/
def dMul : D → D → Option D
  | .int i, .int j => if okMul i j then some (.int (i * j)) else none
  | .list xs, .int k => if decide (0 ≤ k) && okLen (xs.length * k.toNat) && decide (k < 9223372036854775808) then some (.list (List.replicate k.toNat xs).flatten) else none
  | .tuple xs, .int k => if decide (2 ≤ k) && decide (k ≤ 1000) && decide (xs.length ≤ 1000) && decide (xs ≠ [] ∧ True) then some (.tuple (List.replicate k.toNat xs).flatten) else none
  | _, _ => none
theorem L2rep_len {α : Type} (xs : List α) : ∀ k : Nat, (List.replicate k xs).flatten.length = k * xs.length
  | 0 => by simp
  | k + 1 => by rw [List.replicate_succ, List.flatten_cons, List.length_append, L2rep_len xs k, Nat.succ_mul, Nat.add_comm]
theorem rep_small {k : Int} {n : Nat} (h : k ≤ 1000) (h2 : n ≤ 1000) : k.toNat * n ≤ sizeLine := by
  have h3 : k.toNat ≤ 1000 := by omega
  exact Nat.le_trans (Nat.mul_le_mul h3 h2) (by rw [sizeLine_eq]; decide)
theorem ops_mul : OpS X (binaryOp .Mult) dMul := by
  refine ⟨_, op_mul.or (op_rep.or op_repT), fun c W F H x y a b d Q st ra rb e q => ?_⟩
  cases a with
  | int i =>
    cases b with
    | int j =>
      obtain ⟨h, rfl⟩ := if_some e
      have ra := ra.flat rfl
      have rb := rb.flat rfl
      cases ra; cases rb
      refine .inl ⟨i, j, rfl, rfl, ?_, q F H _ st.refl rfl (fr_flat (.int _))⟩
      unfold okMul at h
      simp only [Bool.or_eq_true, Bool.and_eq_true, decide_eq_true_eq] at h
      exact h
    | _ => cases e
  | list xs =>
    cases b with
    | int k =>
      obtain ⟨h, rfl⟩ := if_some e
      have rb := rb.flat rfl
      cases rb
      obtain ⟨a1, v1, rfl, h1, l1, r1⟩ := ra.list st.sub
      simp only [Bool.and_eq_true, decide_eq_true_eq] at h
      obtain ⟨⟨k1, k2⟩, k3⟩ := h
      refine .inr (.inl ⟨a1, k, v1, rfl, rfl, h1, by omega, by omega, by rw [r1.length]; exact okLen_le (decide_eq_true k2), fun p hp => q F _ _ (st.new hp) (st.keepc hp) (fr_new st hp (by rw [L2rep_len, r1.length]; rw [Nat.mul_comm]; exact okLen_le (decide_eq_true k2)) (r1.rep _))⟩)
    | _ => cases e
  | tuple xs =>
    cases b with
    | int k =>
      obtain ⟨h, rfl⟩ := if_some e
      have rb := rb.flat rfl
      cases rb
      obtain ⟨a1, v1, rfl, h1, l1, r1⟩ := (ra.flat rfl).tupI
      simp only [Bool.and_eq_true, decide_eq_true_eq] at h
      obtain ⟨⟨⟨k1, k2⟩, k3⟩, k4, _⟩ := h
      refine .inr (.inr ⟨a1, k, v1, rfl, rfl, SqT_same st.sub h1, fun z => ?_, k1, k2, by rw [r1.length]; exact k3, fun p hp => q _ _ _ (st.newF hp) (st.keepc hp) (fr_newT st hp (by rw [L2rep_len, r1.length]; exact rep_small k2 k3) (r1.rep _))⟩)
      subst z
      cases r1
      exact k4 rfl
    | _ => cases e
  | _ => cases e

/-! ### is, in -/
def dIs : D → D → Option D
  | .bool a, .bool b => some (.bool (a == b))
  | a, .none => some (.bool (match a with | .none => true | _ => false))
  | _, _ => none
def dIsNot : D → D → Option D
  | .bool a, .bool b => some (.bool (!(a == b)))
  | a, .none => some (.bool (!(match a with | .none => true | _ => false)))
  | _, _ => none
theorem Pk.non_iff {K : MpK} {c : Addr} {F H : Hp} {v : V} {d : D} (r : Pk K c F H v d) : decide (v = .non) = (match d with | .none => true | _ => false) := by
  rcases r with r | ⟨a, rfl, n, o⟩
  · cases r <;> rfl
  · cases d with
    | list => rfl
    | dict => rfl
    | _ => exact o.elim
theorem ops_is : OpS X (compareOp .Is) dIs := by
  refine ⟨_, op_isN.or op_isBl, fun c W F H x y a b d Q st ra rb e q => ?_⟩
  cases b with
  | bool b =>
    cases a with
    | bool a =>
      have ra := ra.flat rfl
      have rb := rb.flat rfl
      cases ra; cases rb
      cases e
      refine .inr ⟨a, b, rfl, rfl, ?_⟩
      rw [← Bool.beq_eq_decide_eq]
      exact q F H _ st.refl rfl (fr_flat (.bl _))
    | _ => cases e
  | none =>
    have rb := rb.flat rfl
    cases rb
    refine .inl ⟨rfl, ?_⟩
    rw [ra.non_iff]
    cases a <;> (cases e; exact q F H _ st.refl rfl (fr_flat (.bl _)))
  | _ => cases a <;> cases e
theorem ops_isnot : OpS X (compareOp .IsNot) dIsNot := by
  refine ⟨_, op_notN.or op_notBl, fun c W F H x y a b d Q st ra rb e q => ?_⟩
  cases b with
  | bool b =>
    cases a with
    | bool a =>
      have ra := ra.flat rfl
      have rb := rb.flat rfl
      cases ra; cases rb
      cases e
      refine .inr ⟨a, b, rfl, rfl, ?_⟩
      rw [← Bool.beq_eq_decide_eq]
      exact q F H _ st.refl rfl (fr_flat (.bl _))
    | _ => cases e
  | none =>
    have rb := rb.flat rfl
    cases rb
    refine .inl ⟨rfl, ?_⟩
    rw [ra.non_iff]
    cases a <;> (cases e; exact q F H _ st.refl rfl (fr_flat (.bl _)))
  | _ => cases a <;> cases e
/-- x in a list, a tuple; one sign in a text -/
def dIn : D → D → Option D
  | a, .list ds => if shp a && shp (.list ds) then some (.bool (ds.any fun z => PyData.eqv z a)) else none
  | a, .tuple ds => if shp a && shp (.tuple ds) then some (.bool (ds.any fun z => PyData.eqv z a)) else none
  | .str x, .str y => match x.cps.toList with
    | [c] => some (.bool (decide (c ∈ y.cps.toList)))
    | _ => none
  | _, _ => none
def dNotIn (a b : D) : Option D := match dIn a b with
  | some (.bool k) => some (.bool (!k))
  | _ => none
def rInTD (K : MpK) : R2 := fun x y H Q => ∃ d ds, Dp K H x d ∧ Dp K H y (.tuple ds) ∧ SeqAt.shaped d = true ∧ SeqAt.shaped (.tuple ds) = true ∧ Q (.bl (ds.any fun z => PyData.eqv z d)) H
theorem op_inTD (hu : X.A.units + 65 < cLine) : OpR X (compareOp .In) (rInTD X.kk) := by
  intro pins s σ H x y v u Q I rx ry h
  obtain ⟨d, ds, hd, he, sd, se, q⟩ := h
  obtain ⟨as, r1⟩ := Dp.reads I d x v hd rx
  obtain ⟨bs, r2⟩ := Dp.reads I (.tuple ds) y u he ry
  exact SeqAt.in_tuple_reads r2 r1 (SeqAt.canLay_of_shaped se) (SeqAt.canLay_of_shaped sd) (room_in_shaped sd hu) ⟨.bl _, H, I, rfl, q⟩
def rNotInTD (K : MpK) : R2 := fun x y H Q => ∃ d ds, Dp K H x d ∧ Dp K H y (.tuple ds) ∧ SeqAt.shaped d = true ∧ SeqAt.shaped (.tuple ds) = true ∧ Q (.bl (!ds.any fun z => PyData.eqv z d)) H
theorem op_notInTD (hu : X.A.units + 65 < cLine) : OpR X (compareOp .NotIn) (rNotInTD X.kk) := by
  intro pins s σ H x y v u Q I rx ry h
  obtain ⟨d, ds, hd, he, sd, se, q⟩ := h
  obtain ⟨as, r1⟩ := Dp.reads I d x v hd rx
  obtain ⟨bs, r2⟩ := Dp.reads I (.tuple ds) y u he ry
  exact SeqAt.notIn_tuple_reads r2 r1 (SeqAt.canLay_of_shaped se) (SeqAt.canLay_of_shaped sd) (room_in_shaped sd hu) ⟨.bl _, H, I, rfl, q⟩
theorem one_sign {x : Str} {c : Nat} (h : x.cps.toList = [c]) : x = ⟨#[c]⟩ := by
  obtain ⟨x⟩ := x
  have h' : x.toList = [c] := h
  have : x = #[c] := by
    apply Array.toList_inj.mp
    rw [h']
  rw [this]
theorem ops_in (hu : X.A.units + 65 < cLine) : OpS X (compareOp .In) dIn := by
  refine ⟨_, op_in_sign.or ((op_inD hu).or (op_inTD hu)), fun c W F H x y a b d Q st ra rb e q => ?_⟩
  cases b with
  | list ds =>
    have e : (if shp a && shp (.list ds) then some (PyData.bool (ds.any fun z => PyData.eqv z a)) else none) = some d := by cases a <;> exact e
    obtain ⟨h, rfl⟩ := if_some e
    obtain ⟨h1, h2⟩ := Bool.and_eq_true_iff.mp h
    exact .inr (.inl ⟨a, ds, ra.dp st.sub (Bool.and_eq_true_iff.mp h1).1, rb.dp st.sub (Bool.and_eq_true_iff.mp h2).1, h1, h2, q F H _ st.refl rfl (fr_flat (.bl _))⟩)
  | tuple ds =>
    have e : (if shp a && shp (.tuple ds) then some (PyData.bool (ds.any fun z => PyData.eqv z a)) else none) = some d := by cases a <;> exact e
    obtain ⟨h, rfl⟩ := if_some e
    obtain ⟨h1, h2⟩ := Bool.and_eq_true_iff.mp h
    exact .inr (.inr ⟨a, ds, ra.dp st.sub (Bool.and_eq_true_iff.mp h1).1, rb.dp st.sub (Bool.and_eq_true_iff.mp h2).1, h1, h2, q F H _ st.refl rfl (fr_flat (.bl _))⟩)
  | str y =>
    cases a with
    | str x =>
      have ra := ra.flat rfl
      have rb := rb.flat rfl
      cases ra; cases rb
      have e : (match x.cps.toList with | [k] => some (PyData.bool (decide (k ∈ y.cps.toList))) | _ => none) = some d := e
      split at e
      · rename_i k hk
        cases e
        obtain rfl := one_sign hk
        exact .inl ⟨k, y, rfl, rfl, q F H _ st.refl rfl (fr_flat (.bl _))⟩
      · cases e
    | _ => cases e
  | _ => cases a <;> cases e
theorem ops_notin (hu : X.A.units + 65 < cLine) : OpS X (compareOp .NotIn) dNotIn := by
  refine ⟨_, op_notIn_sign.or ((op_notInD hu).or (op_notInTD hu)), fun c W F H x y a b d Q st ra rb e q => ?_⟩
  unfold dNotIn at e
  split at e
  rotate_left
  · cases e
  rename_i k e1
  cases e
  have e := e1
  cases b with
  | list ds =>
    have e : (if shp a && shp (.list ds) then some (PyData.bool (ds.any fun z => PyData.eqv z a)) else none) = some (.bool k) := by cases a <;> exact e
    obtain ⟨h, h'⟩ := if_some e
    cases h'
    obtain ⟨h1, h2⟩ := Bool.and_eq_true_iff.mp h
    exact .inr (.inl ⟨a, ds, ra.dp st.sub (Bool.and_eq_true_iff.mp h1).1, rb.dp st.sub (Bool.and_eq_true_iff.mp h2).1, h1, h2, q F H _ st.refl rfl (fr_flat (.bl _))⟩)
  | tuple ds =>
    have e : (if shp a && shp (.tuple ds) then some (PyData.bool (ds.any fun z => PyData.eqv z a)) else none) = some (.bool k) := by cases a <;> exact e
    obtain ⟨h, h'⟩ := if_some e
    cases h'
    obtain ⟨h1, h2⟩ := Bool.and_eq_true_iff.mp h
    exact .inr (.inr ⟨a, ds, ra.dp st.sub (Bool.and_eq_true_iff.mp h1).1, rb.dp st.sub (Bool.and_eq_true_iff.mp h2).1, h1, h2, q F H _ st.refl rfl (fr_flat (.bl _))⟩)
  | str y =>
    cases a with
    | str x =>
      have ra := ra.flat rfl
      have rb := rb.flat rfl
      cases ra; cases rb
      have e : (match x.cps.toList with | [c'] => some (PyData.bool (decide (c' ∈ y.cps.toList))) | _ => none) = some (.bool k) := e
      split at e
      · rename_i c' hk
        cases e
        obtain rfl := one_sign hk
        exact .inl ⟨c', y, rfl, rfl, q F H _ st.refl rfl (fr_flat (.bl _))⟩
      · cases e
    | _ => cases e
  | _ => cases a <;> cases e
end
end MP
namespace MP
open PySem PySem.Spec PyProof.Rows L2

/-! ## tests -/
structure QT (X : Cx) (z : Z) (O : List Nat) (e : Expr) (f : Ev) : Prop where
  pt : PT X e (tTv X.kk z O f)
structure QW (X : Cx) (z : Z) (O : List Nat) (e : Expr) (f : Ev) : Prop where
  pw : PW X e (tTv X.kk z O f)
theorem PW.to {X : Cx} {e : Expr} {t t' : TT} (h : PW X e t) (k : ∀ σ H Q, t' σ H Q → t σ H Q) : PW X e t' := ⟨fun wh pins s σ H Q I q => h.run wh pins s σ H Q I (k _ _ _ q)⟩
/-- only bools -/
def eB (f : Ev) : Ev := fun env cp => (f env cp).bind fun d cp1 => match d with
  | .bool b => .ok (.bool b) cp1
  | _ => .bad
def eAnd (f g : Ev) : Ev := fun env cp => (f env cp).bind fun d cp1 => match d with
  | .bool true => g env cp1
  | .bool false => .ok (.bool false) cp1
  | _ => .bad
def eOr (f g : Ev) : Ev := fun env cp => (f env cp).bind fun d cp1 => match d with
  | .bool true => .ok (.bool true) cp1
  | .bool false => g env cp1
  | _ => .bad
def eNot (f : Ev) : Ev := fun env cp => (f env cp).bind fun d cp1 => match d with
  | .bool b => .ok (.bool (!b)) cp1
  | _ => .bad
def eIf (c f g : Ev) : Ev := fun env cp => (c env cp).bind fun d cp1 => match d with
  | .bool true => f env cp1
  | .bool false => g env cp1
  | _ => .bad
def eChn (op op' : D → D → Option D) (a b c : Ev) : Ev := fun env cp => (a env cp).bind fun x cp1 => (b env cp1).bind fun y cp2 => match op x y with
  | some (.bool true) => (c env cp2).bind fun w cp3 => match op' y w with
    | some d => .ok d cp3
    | none => .bad
  | some (.bool false) => .ok (.bool false) cp2
  | _ => .bad
section
variable {X : Cx} {z : Z} {O : List Nat}
/-- a test's value is a bool: the raw form -/
theorem aft_bool {E : Str → Hp → Prop} {c : Addr} {W : Addr → Prop} {F H : Hp} {r : Res D} {β : Type} {g : D → Cup → Res β} {Q : β → Cup → Hp → Hp → Prop} (hb : ∀ d cp, (∀ b, d ≠ .bool b) → g d cp = .bad) (h : Aft E c W F H (r.bind g) Q) :
    Aft E c W F H r fun d cp' F' H' => (∃ b, d = .bool b) ∧ Aft E c W F' H' (g d cp') Q := (Aft.bind h).imp fun d cp' F' H' s e q => by
  refine ⟨?_, q⟩
  cases d with
  | bool b => exact ⟨b, rfl⟩
  | _ => rw [hb _ cp' (fun b z => by cases z)] at q; exact q.elim
theorem q_tval {e : Expr} {f : Ev} (h : QE X z O e f) (he : ∀ whole, isTrue e X.env whole = (do let v ← whole; standAt e.pos; holding [v] (truthy v)) := by intro _; rfl) : QT X z O e (eB f) := ⟨PT.to (pt_val h.pe he) fun σ H Q ⟨c, W, A, env, cp, F, p, q⟩ => ⟨c, W, A, env, cp, F, p, (aft_bool (fun d cp hd => by cases d <;> first | rfl | exact absurd rfl (hd _)) q).imp fun d cp' F' H' s e ⟨⟨b, hb⟩, q⟩ v r => by
  subst hb
  cases r
  exact ⟨b, rfl, q F' H' ⟨Same.refl _, s.sub, fun _ _ _ h => h, s.w⟩ e b rfl⟩⟩⟩
theorem q_tcmp {o : CmpOp} {op : D → D → Option D} {a b : Expr} {fa fb : Ev} {pos : Pos} (h : OpS X (compareOp o) op) (ha : QP X z O a fa) (hb : QP X z O b fb) (hm : behindInMarks o b = false := by first | exact nomark _ | rfl) : QT X z O (.Compare a [o] [b] pos) (eB (eBin op fa fb)) := by
  obtain ⟨r, hr, go⟩ := bin_go (z := z) (O := O) h (fa := fa) (fb := fb)
  refine ⟨PT.to (pt_cmpR hr ha.pe hb.pe hm) fun σ H Q ⟨c, W, A, env, cp, F, p, q⟩ => go σ H _ ⟨c, W, A, env, cp, F, p, (aft_bool (fun d cp hd => by cases d <;> first | rfl | exact absurd rfl (hd _)) q).imp fun d cp' F' H' s e ⟨⟨b, hb⟩, q⟩ v r => ?_⟩⟩
  subst hb
  rcases r with ⟨_, r⟩ | ⟨a, _, _, _, o⟩
  · cases r
    exact ⟨b, rfl, q F' H' ⟨Same.refl _, s.sub, fun _ _ _ h => h, s.w⟩ e b rfl⟩
  · exact o.elim
theorem q_tnot {a : Expr} {f : Ev} {pos : Pos} (h : QT X z O a f) : QT X z O (.UnaryOp .Not a pos) (eNot f) := ⟨PT.to (pt_not h.pt) fun σ H Q ⟨c, W, A, env, cp, F, p, q⟩ => ⟨c, W, A, env, cp, F, p, (Aft.bind q).imp fun d cp' F' H' s e q b hb => by
  subst hb
  exact q F' H' ⟨Same.refl _, s.sub, fun _ _ _ h => h, s.w⟩ e _ rfl⟩⟩
theorem q_wand1 {a : Expr} {f : Ev} {pos : Pos} (h : QT X z O a f) : QW X z O (.BoolOp .And [a] pos) f := ⟨pw_and1 h.pt⟩
theorem q_wor1 {a : Expr} {f : Ev} {pos : Pos} (h : QT X z O a f) : QW X z O (.BoolOp .Or [a] pos) f := ⟨pw_or1 h.pt⟩
theorem q_wand {a b : Expr} {rest : List Expr} {f g : Ev} {pos : Pos} (ha : QT X z O a f) (hb : QW X z O (.BoolOp .And (b :: rest) pos) g) : QW X z O (.BoolOp .And (a :: b :: rest) pos) (eAnd f g) :=
  ⟨PW.to (pw_and ha.pt hb.pw) fun σ H Q ⟨c, W, A, env, cp, F, p, q⟩ => ⟨c, W, A, env, cp, F, p, (Aft.bind q).imp fun d cp' F' H' s e q b hb => by
    subst hb
    cases b with
    | true => exact iteT ⟨c, W, A, env, cp', F', p.step s e, q⟩
    | false => exact iteF (q F' H' ⟨Same.refl _, s.sub, fun _ _ _ h => h, s.w⟩ e _ rfl)⟩⟩
theorem q_wor {a b : Expr} {rest : List Expr} {f g : Ev} {pos : Pos} (ha : QT X z O a f) (hb : QW X z O (.BoolOp .Or (b :: rest) pos) g) : QW X z O (.BoolOp .Or (a :: b :: rest) pos) (eOr f g) :=
  ⟨PW.to (pw_or ha.pt hb.pw) fun σ H Q ⟨c, W, A, env, cp, F, p, q⟩ => ⟨c, W, A, env, cp, F, p, (Aft.bind q).imp fun d cp' F' H' s e q b hb => by
    subst hb
    cases b with
    | false => exact iteF ⟨c, W, A, env, cp', F', p.step s e, q⟩
    | true => exact iteT (q F' H' ⟨Same.refl _, s.sub, fun _ _ _ h => h, s.w⟩ e _ rfl)⟩⟩
theorem QW.t {e : Expr} {f : Ev} (h : QW X z O e f) : QT X z O e f := ⟨PW.pt h.pw⟩
/-! as values -/
theorem q_not {a : Expr} {f : Ev} {pos : Pos} (h : QE X z O a f) : QE X z O (.UnaryOp .Not a pos) (eNot f) := ⟨PE.to (pe_not h.pe) fun σ H Q ⟨c, W, A, env, cp, F, p, q⟩ => ⟨c, W, A, env, cp, F, p, (Aft.bind q).imp fun d cp' F' H' s e q v r => by
  cases d with
  | bool b =>
    cases r
    exact ⟨b, rfl, q F' H' ⟨Same.refl _, s.sub, fun _ _ _ h => h, s.w⟩ e _ (.bl _)⟩
  | _ => exact q.elim⟩⟩
theorem q_one {a : Expr} {op : BoolOp} {f : Ev} {pos : Pos} (h : QE X z O a f) : QE X z O (.BoolOp op [a] pos) f := ⟨pe_one h.pe⟩
theorem q_and {a b : Expr} {rest : List Expr} {f g : Ev} {pos : Pos} (ha : QE X z O a f) (hb : QE X z O (.BoolOp .And (b :: rest) pos) g) : QE X z O (.BoolOp .And (a :: b :: rest) pos) (eAnd f g) :=
  ⟨PE.to (pe_and ha.pe hb.pe) fun σ H Q ⟨c, W, A, env, cp, F, p, q⟩ => ⟨c, W, A, env, cp, F, p, (Aft.bind q).imp fun d cp' F' H' s e q v r => by
    cases d with
    | bool b =>
      cases r
      refine ⟨b, rfl, ?_⟩
      cases b with
      | true => exact iteT ⟨c, W, A, env, cp', F', p.step s e, q⟩
      | false => exact iteF (q F' H' ⟨Same.refl _, s.sub, fun _ _ _ h => h, s.w⟩ e _ (.bl _))
    | _ => exact q.elim⟩⟩
theorem q_or {a b : Expr} {rest : List Expr} {f g : Ev} {pos : Pos} (ha : QE X z O a f) (hb : QE X z O (.BoolOp .Or (b :: rest) pos) g) : QE X z O (.BoolOp .Or (a :: b :: rest) pos) (eOr f g) :=
  ⟨PE.to (pe_or ha.pe hb.pe) fun σ H Q ⟨c, W, A, env, cp, F, p, q⟩ => ⟨c, W, A, env, cp, F, p, (Aft.bind q).imp fun d cp' F' H' s e q v r => by
    cases d with
    | bool b =>
      cases r
      refine ⟨b, rfl, ?_⟩
      cases b with
      | false => exact iteF ⟨c, W, A, env, cp', F', p.step s e, q⟩
      | true => exact iteT (q F' H' ⟨Same.refl _, s.sub, fun _ _ _ h => h, s.w⟩ e _ (.bl _))
    | _ => exact q.elim⟩⟩
theorem Stp.sitStep {c : Addr} {W : Addr → Prop} {F H F1 H1 : Hp} (s : Stp c W F H F1 H1) : Stp c W F1 H1 F1 H1 := ⟨Same.refl _, s.sub, fun _ _ _ h => h, s.w⟩
/-- fresh behind a step -/
theorem Fr.back {K : MpK} {c : Addr} {W : Addr → Prop} {F H F1 H1 F' H' : Hp} {cp : Cup} {v : V} {d : D} (s : Stp c W F H F1 H1) (e : H1 c = some (cupV cp)) (r : Fr K H1 F' H' v d) : Fr K H F' H' v d := by
  rcases r with f | ⟨a, h1, h2, h3, h4⟩
  · exact .inl f
  · refine .inr ⟨a, h1, ?_, h3, h4⟩
    cases e' : H a with
    | none => rfl
    | some o =>
      by_cases hc : a = c
      · subst hc; rw [e] at h2; cases h2
      · rw [s.h a o hc e'] at h2; cases h2
theorem q_if {c a b : Expr} {fc f g : Ev} {pos : Pos} (hc : QT X z O c fc) (ha : QE X z O a f) (hb : QE X z O b g) : QE X z O (.IfExp c a b pos) (eIf fc f g) :=
  ⟨PE.to (pe_ifExp hc.pt ha.pe hb.pe) fun σ H Q ⟨c, W, A, env, cp, F, p, q⟩ => ⟨c, W, A, env, cp, F, p, (Aft.bind q).imp fun d cp' F' H' s e q b hb => by
    subst hb
    cases b with
    | true => exact iteT ⟨c, W, A, env, cp', F', p.step s e, q⟩
    | false => exact iteF ⟨c, W, A, env, cp', F', p.step s e, q⟩⟩⟩
theorem q_ifF {c a b : Expr} {fc f g : Ev} {pos : Pos} (hc : QT X z O c fc) (ha : QF X z O a f) (hb : QF X z O b g) : QF X z O (.IfExp c a b pos) (eIf fc f g) :=
  ⟨PE.to (pe_ifExp hc.pt ha.pe hb.pe) fun σ H Q ⟨c, W, A, env, cp, F, p, q⟩ => ⟨c, W, A, env, cp, F, p, (Aft.bind q).imp fun d cp' F' H' s e q b hb => by
    subst hb
    cases b with
    | true => exact iteT ⟨c, W, A, env, cp', F', p.step s e, q.imp fun _ _ _ _ _ _ k v r => k v (r.back s e)⟩
    | false => exact iteF ⟨c, W, A, env, cp', F', p.step s e, q.imp fun _ _ _ _ _ _ k v r => k v (r.back s e)⟩⟩⟩
theorem chn_go {o o' : CmpOp} {op op' : D → D → Option D} {fa fb fc : Ev} (h : OpS X (compareOp o) op) (h' : OpS X (compareOp o') op') : ∃ r r' : R2, OpR X (compareOp o) r ∧ OpR X (compareOp o') r' ∧
    ∀ σ H Q, tFr X.kk z O (eChn op op' fa fb fc) σ H Q → tChain r r' (tPk X.kk z O fa) (tPk X.kk z O fb) (tPk X.kk z O fc) σ H Q := by
  obtain ⟨r, hr, go⟩ := h
  obtain ⟨r', hr', go'⟩ := h'
  refine ⟨r, r', hr, hr', ?_⟩
  rintro σ H Q ⟨c, W, A, env, cp, F, p, q⟩
  refine ⟨c, W, A, env, cp, F, p, (Aft.bind q).imp fun a cp1 F1 H1 s1 e1 q1 v1 r1 => ⟨c, W, A, env, cp1, F1, p.step s1 e1, (Aft.bind q1).imp fun b cp2 F2 H2 s2 e2 q2 v2 r2 => ?_⟩⟩
  have st2 := ((p.sit.step s1 e1).step s2 e2)
  cases e : op a b with
  | none => simp only [e] at q2; exact q2.elim
  | some d =>
    simp only [e] at q2
    cases d with
    | bool k =>
      refine go c W F2 H2 v1 v2 a b _ _ st2 (r1.step s2) r2 e fun F' H' v s kk f => ?_
      rcases f with ⟨_, f⟩ | ⟨a, _, _, _, o⟩
      · cases f
        refine ⟨k, rfl, ?_⟩
        have e3 := kk.trans e2
        cases k with
        | true =>
          refine iteT ⟨c, W, A, env, cp2, F', ((p.step s1 e1).step s2 e2).step s e3, ?_⟩
          have q3 : Aft z.E c W F2 H2 ((fc env cp2).bind fun w cp3 => match op' b w with | some d => .ok d cp3 | none => .bad) fun d _ F' H' => ∀ v, Fr X.kk H F' H' v d → Q v H' := q2
          have q3 : Aft z.E c W F' H' ((fc env cp2).bind fun w cp3 => match op' b w with | some d => .ok d cp3 | none => .bad) fun d _ F' H' => ∀ v, Fr X.kk H F' H' v d → Q v H' := by
            generalize ((fc env cp2).bind fun w cp3 => match op' b w with | some d => .ok d cp3 | none => .bad) = rr at q3
            cases rr with
            | ok d cp' => exact fun F2 H2 s2 e2 => q3 F2 H2 (s.trans s2) e2
            | err x cp' => exact fun F2 H2 s2 e2 => q3 F2 H2 (s.trans s2) e2
            | bad => exact q3
          refine (Aft.bind q3).imp fun w cp3 F4 H4 s4 e4 q4 v3 r3 => ?_
          cases e5 : op' b w with
          | none => simp only [e5] at q4; exact q4.elim
          | some d =>
            simp only [e5] at q4
            refine go' c W F4 H4 v2 v3 b w d Q ((st2.step s e3).step s4 e4) ((r2.step s).step s4) r3 e5 fun F5 H5 v s5 k5 f => q4 F5 H5 s5 (k5.trans e4) v ?_
            exact ((f.back s4 e4).back s e3 |>.back s2 e2).back s1 e1
        | false => exact iteF (q2 F' H' s e3 _ (fr_flat (.bl _)))
      · exact o.elim
    | _ => exact q2.elim
theorem q_chn {o o' : CmpOp} {op op' : D → D → Option D} {a b c : Expr} {fa fb fc : Ev} {pos : Pos} (h : OpS X (compareOp o) op) (h' : OpS X (compareOp o') op') (ha : QP X z O a fa) (hb : QP X z O b fb) (hc : QP X z O c fc)
    (hm : lastMarks [o, o'] [b, c] = false := by with_unfolding_all rfl) : QF X z O (.Compare a [o, o'] [b, c] pos) (eChn op op' fa fb fc) := by
  obtain ⟨r, r', hr, hr', go⟩ := chn_go (z := z) (O := O) (fa := fa) (fb := fb) (fc := fc) h h'
  exact ⟨PE.to (pe_chain hr hr' ha.pe hb.pe hc.pe hm) go⟩
theorem q_tchn {o o' : CmpOp} {op op' : D → D → Option D} {a b c : Expr} {fa fb fc : Ev} {pos : Pos} (h : OpS X (compareOp o) op) (h' : OpS X (compareOp o') op') (ha : QP X z O a fa) (hb : QP X z O b fb) (hc : QP X z O c fc)
    (hm : lastMarks [o, o'] [b, c] = false := by with_unfolding_all rfl) : QT X z O (.Compare a [o, o'] [b, c] pos) (eB (eChn op op' fa fb fc)) := by
  obtain ⟨r, r', hr, hr', go⟩ := chn_go (z := z) (O := O) (fa := fa) (fb := fb) (fc := fc) h h'
  refine ⟨PT.to (pt_chain hr hr' ha.pe hb.pe hc.pe hm) fun σ H Q ⟨c, W, A, env, cp, F, p, q⟩ => go σ H _ ⟨c, W, A, env, cp, F, p, (aft_bool (fun d cp hd => by cases d <;> first | rfl | exact absurd rfl (hd _)) q).imp fun d cp' F' H' s e ⟨⟨b, hb⟩, q⟩ v r => ?_⟩⟩
  subst hb
  rcases r with ⟨_, r⟩ | ⟨a, _, _, _, o⟩
  · cases r
    exact ⟨b, rfl, q F' H' ⟨Same.refl _, s.sub, fun _ _ _ h => h, s.w⟩ e b rfl⟩
  · exact o.elim
end

/-! ## lists of expressions -/
inductive PkA (K : MpK) (c : Addr) (F H : Hp) : List V → List D → Prop
  | nil : PkA K c F H [] []
  | cons {v : V} {vs : List V} {d : D} {ds : List D} : Pk K c F H v d → PkA K c F H vs ds → PkA K c F H (v :: vs) (d :: ds)
def tEvs (K : MpK) (z : Z) (O : List Nat) (f : Evs) : TA := fun σ H Q => ∃ c W A env cp F, Pre K z.ci O c W A env cp F σ H ∧ Aft z.E c W F H (f env cp) fun ds _ F' H' => ∀ vs, RpA K F' vs ds → Q vs H'
def tPks (K : MpK) (z : Z) (O : List Nat) (f : Evs) : TA := fun σ H Q => ∃ c W A env cp F, Pre K z.ci O c W A env cp F σ H ∧ Aft z.E c W F H (f env cp) fun ds _ F' H' => ∀ vs, PkA K c F' H' vs ds → Q vs H'
structure QA (X : Cx) (z : Z) (O : List Nat) (es : List Expr) (f : Evs) : Prop where
  pa : PA X es (tEvs X.kk z O f)
  len : ∀ env cp ds cp', f env cp = .ok ds cp' → ds.length = es.length
structure QPA (X : Cx) (z : Z) (O : List Nat) (es : List Expr) (f : Evs) : Prop where
  pa : PA X es (tPks X.kk z O f)
  len : ∀ env cp ds cp', f env cp = .ok ds cp' → ds.length = es.length
def eNil : Evs := fun _ cp => .ok [] cp
def eCons (f : Ev) (g : Evs) : Evs := fun env cp => (f env cp).bind fun d cp1 => (g env cp1).bind fun ds cp2 => .ok (d :: ds) cp2
theorem eCons_len {f : Ev} {g : Evs} {n : Nat} (h : ∀ env cp ds cp', g env cp = .ok ds cp' → ds.length = n) : ∀ env cp ds cp', eCons f g env cp = .ok ds cp' → ds.length = n + 1 := by
  intro env cp ds cp' e
  unfold eCons at e
  cases e1 : f env cp with
  | ok d cp1 =>
    rw [e1, Res.bind_ok] at e
    cases e2 : g env cp1 with
    | ok es cp2 =>
      rw [e2, Res.bind_ok] at e
      cases e
      rw [List.length_cons, h _ _ _ _ e2]
    | err x c => rw [e2] at e; cases e
    | bad => rw [e2] at e; cases e
  | err x c => rw [e1] at e; cases e
  | bad => rw [e1] at e; cases e
section
variable {X : Cx} {z : Z} {O : List Nat}
theorem qa_nil : QA X z O [] eNil := ⟨PA.to pa_nil fun σ H Q ⟨c, W, A, env, cp, F, p, q⟩ => q F H p.refl p.cup [] .nil, fun _ _ _ _ e => by cases e; rfl⟩
theorem qpa_nil : QPA X z O [] eNil := ⟨PA.to pa_nil fun σ H Q ⟨c, W, A, env, cp, F, p, q⟩ => q F H p.refl p.cup [] .nil, fun _ _ _ _ e => by cases e; rfl⟩
theorem PkA.step {K : MpK} {c : Addr} {W : Addr → Prop} {F H F' H' : Hp} (s : Stp c W F H F' H') : ∀ {vs : List V} {ds : List D}, PkA K c F H vs ds → PkA K c F' H' vs ds
  | _, _, .nil => .nil
  | _, _, .cons h r => .cons (h.step s) (PkA.step s r)
theorem qa_cons {e : Expr} {es : List Expr} {f : Ev} {g : Evs} (he : QE X z O e f) (hr : QA X z O es g) (hs : starEach (e :: es) X.env = (false, eval e X.env) :: starEach es X.env := by rfl) : QA X z O (e :: es) (eCons f g) :=
  ⟨PA.to (pa_cons he.pe hr.pa hs) fun σ H Q ⟨c, W, A, env, cp, F, p, q⟩ => ⟨c, W, A, env, cp, F, p, (Aft.bind q).imp fun d cp1 F1 H1 s1 e1 q1 v r => ⟨c, W, A, env, cp1, F1, p.step s1 e1, (Aft.bind q1).imp fun ds cp2 F2 H2 s2 e2 q2 vs rs => q2 F2 H2 s2.sitStep e2 (v :: vs) (.cons (r.mono s2.f) rs)⟩⟩,
   by rw [List.length_cons]; exact eCons_len hr.len⟩
theorem qpa_cons {e : Expr} {es : List Expr} {f : Ev} {g : Evs} (he : QP X z O e f) (hr : QPA X z O es g) (hs : starEach (e :: es) X.env = (false, eval e X.env) :: starEach es X.env := by rfl) : QPA X z O (e :: es) (eCons f g) :=
  ⟨PA.to (pa_cons he.pe hr.pa hs) fun σ H Q ⟨c, W, A, env, cp, F, p, q⟩ => ⟨c, W, A, env, cp, F, p, (Aft.bind q).imp fun d cp1 F1 H1 s1 e1 q1 v r => ⟨c, W, A, env, cp1, F1, p.step s1 e1, (Aft.bind q1).imp fun ds cp2 F2 H2 s2 e2 q2 vs rs => q2 F2 H2 s2.sitStep e2 (v :: vs) (.cons (r.step s2) rs)⟩⟩,
   by rw [List.length_cons]; exact eCons_len hr.len⟩
/-! displays -/
def eTup (f : Evs) : Ev := fun env cp => (f env cp).bind fun ds cp1 => .ok (.tuple ds) cp1
def eLst (f : Evs) : Ev := fun env cp => (f env cp).bind fun ds cp1 => .ok (.list ds) cp1
theorem q_tup {es : List Expr} {k : Nat} {pos : Pos} {f : Evs} (h : QA X z O es f) (hl : es.length ≤ 1000 := by decide) : QE X z O (.Tuple es k pos) (eTup f) := by
  refine ⟨PE.to (pe_tup h.pa) fun σ H Q ⟨c, W, A, env, cp, F, p, q⟩ => ⟨c, W, A, env, cp, F, p, ?_⟩⟩
  have hn := h.len env cp
  unfold eTup at q
  generalize f env cp = r at q hn
  cases r with
  | ok ds cp1 =>
    intro F1 H1 s1 e1 vs rs
    have st := p.sit.step s1 e1
    refine ⟨by rw [rs.length, hn ds cp1 rfl]; exact Nat.le_of_lt (small1000 hl), fun t ht => ?_⟩
    exact q _ _ (s1.trans (st.newF ht)) ((st.keepc ht).trans e1) _ (.tup (.inl (.inl upd_same)) (by rw [rs.length, hn ds cp1 rfl]; exact Nat.le_of_lt (small1000 hl)) (rs.mono (st.newF (o := .tup vs) ht).f))
  | err x cp1 => exact q
  | bad => exact q
theorem q_lst {es : List Expr} {pos : Pos} {f : Evs} (h : QA X z O es f) (hl : es.length ≤ 1000 := by decide) : QF X z O (.List es pos) (eLst f) := by
  refine ⟨PE.to (pe_lst h.pa) fun σ H Q ⟨c, W, A, env, cp, F, p, q⟩ => ⟨c, W, A, env, cp, F, p, ?_⟩⟩
  have hn := h.len env cp
  unfold eLst at q
  generalize f env cp = r at q hn
  cases r with
  | ok ds cp1 =>
    intro F1 H1 s1 e1 vs rs
    have st := p.sit.step s1 e1
    refine ⟨by rw [rs.length, hn ds cp1 rfl]; exact Nat.le_of_lt (small1000 hl), fun t ht => ?_⟩
    exact q _ _ (s1.trans (st.new ht)) ((st.keepc ht).trans e1) _ ((fr_new st ht (by rw [rs.length, hn ds cp1 rfl]; exact Nat.le_of_lt (small1000 hl)) rs).back s1 e1)
  | err x cp1 => exact q
  | bad => exact q
end
end MP
namespace MP
open PySem PySem.Spec PyProof.Rows L2

/-! ## subscripts -/
def ClE (X : Cx) (r : R2) (op : D → D → Option D) : Prop := ∀ (c : Addr) (W : Addr → Prop) (F H : Hp) (x y : V) (a b d : D) (Q : VK), Sit c W F H → Pk X.kk c F H x a → Pk X.kk c F H y b → op a b = some d →
  (∀ F' H' v, Stp c W F H F' H' → H' c = H c → Rp X.kk F' v d → Q v H') → r x y H Q
def IxS (X : Cx) (op : D → D → Option D) : Prop := ∃ r : R2, IxR X r ∧ ClE X r op
theorem clE_go {X : Cx} {z : Z} {O : List Nat} {r : R2} {op : D → D → Option D} (go : ClE X r op) {fa fb : Ev} : ∀ σ H Q, tEv X.kk z O (eBin op fa fb) σ H Q → tOp r (tPk X.kk z O fa) (tPk X.kk z O fb) σ H Q := by
  rintro σ H Q ⟨c, W, A, env, cp, F, p, q⟩
  refine ⟨c, W, A, env, cp, F, p, (Aft.bind q).imp fun a cp1 F1 H1 s1 e1 q1 v1 r1 => ⟨c, W, A, env, cp1, F1, p.step s1 e1, (Aft.bind q1).imp fun b cp2 F2 H2 s2 e2 q2 v2 r2 => ?_⟩⟩
  cases e : op a b with
  | none => simp only [e] at q2; exact q2.elim
  | some d =>
    simp only [e] at q2
    exact go c W F2 H2 v1 v2 a b d Q ((p.sit.step s1 e1).step s2 e2) (r1.step s2) r2 e fun F' H' v s k f => q2 F' H' s (k.trans e2) v f
theorem q_ix {X : Cx} {z : Z} {O : List Nat} {op : D → D → Option D} {a b : Expr} {fa fb : Ev} {pos : Pos} (h : IxS X op) (ha : QP X z O a fa) (hb : QP X z O b fb) (hs : PlainIx b := by exact fun _ _ => rfl) : QE X z O (.Subscript a b pos) (eBin op fa fb) := by
  obtain ⟨r, hr, go⟩ := h
  exact ⟨PE.to (pe_ix hr ha.pe hb.pe hs) (clE_go go)⟩
/-- a key of a dict -/
def keyOf : D → Option Key
  | .int i => some (.inl i)
  | .str x => some (.inr x)
  | _ => none
def keysOf : List D → Option (List Key)
  | [] => some []
  | d :: r => match keyOf d, keysOf r with
    | some k, some ks => some (k :: ks)
    | _, _ => none
/-- a tuple of ints and texts as a key -/
def tkOf : D → Option (List Key)
  | .tuple ds => keysOf ds
  | _ => none
def dicGet (kvs : List (D × D)) (k : D) : Option D := match keyOf k with
  | some κ => (kvs.find? fun kv => decide (keyOf kv.1 = some κ)).map (·.2)
  | none => match tkOf k with
    | some ks => (kvs.find? fun kv => decide (tkOf kv.1 = some ks)).map (·.2)
    | none => none
def dIx : D → D → Option D
  | .list ds, .int i => atI ds i
  | .tuple ds, .int i => atI ds i
  | .str x, .int i => (atI x.cps.toList i).map fun c => .str ⟨#[c]⟩
  | .dict kvs, k => dicGet kvs k
  | _, _ => none
theorem keyOf_keyD (k : Key) : keyOf (keyD k) = some k := by cases k <;> rfl
theorem keysOf_map : ∀ ks : List Key, keysOf (ks.map keyD) = some ks
  | [] => rfl
  | k :: ks => by rw [List.map_cons, keysOf, keyOf_keyD, keysOf_map ks]
theorem keyD_of {d : D} {k : Key} (h : keyOf d = some k) : d = keyD k := by
  cases d with
  | int i => cases h; rfl
  | str i => cases h; rfl
  | _ => cases h
theorem keysOf_eq : ∀ {ds : List D} {ks : List Key}, keysOf ds = some ks → ds = ks.map keyD
  | [], ks, h => by cases h; rfl
  | d :: r, ks, h => by
    rw [keysOf] at h
    cases h1 : keyOf d with
    | none => rw [h1] at h; cases h
    | some k =>
      cases h2 : keysOf r with
      | none => rw [h1, h2] at h; cases h
      | some l =>
        rw [h1, h2] at h
        cases h
        rw [List.map_cons, ← keyD_of h1, ← keysOf_eq h2]
theorem tkOf_eq {d : D} {ks : List Key} (h : tkOf d = some ks) : d = .tuple (ks.map keyD) := by
  cases d with
  | tuple ds => rw [keysOf_eq h]
  | _ => cases h
theorem RpA.keys {K : MpK} {F : Hp} : ∀ {ks : List Key} {vs : List V}, RpA K F vs (ks.map keyD) → vs = ks.map kV ∧ ∀ x : Str, .inr x ∈ ks → sOk x
  | [], vs, r => by
    have r' : RpA K F vs [] := r
    cases r'
    exact ⟨rfl, fun x h => by cases h⟩
  | k :: ks, vs, r => by
    have r' : RpA K F vs (keyD k :: ks.map keyD) := r
    cases r' with
    | cons h r2 =>
      obtain ⟨e, f⟩ := RpA.keys r2
      have hk : ∀ {v : V}, Rp K F v (keyD k) → v = kV k ∧ ∀ x : Str, k = .inr x → sOk x := fun {v} hh => by
        cases k with
        | inl i => cases hh; exact ⟨rfl, fun x z => by cases z⟩
        | inr y => cases hh with | str _ s => exact ⟨rfl, fun x z => by cases z; exact s⟩
      obtain ⟨e1, s1⟩ := hk h
      rw [e, e1]
      refine ⟨rfl, fun x hx => ?_⟩
      rcases List.mem_cons.mp hx with z | z
      · exact s1 x z.symm
      · exact f x z
/-- a tuple that is a key -/
theorem Rp.tkey {K : MpK} {F : Hp} {v : V} {ks : List Key} (r : Rp K F v (.tuple (ks.map keyD))) : ∃ b, v = .ref b ∧ SqT K F b (ks.map kV) ∧ ks.length ≤ sizeLine ∧ ∀ x : Str, .inr x ∈ ks → sOk x := by
  obtain ⟨b, vs, rfl, h, l, r⟩ := r.tupI
  obtain ⟨rfl, f⟩ := r.keys
  exact ⟨b, rfl, h, by simpa using l, f⟩
theorem Rp.key {K : MpK} {F : Hp} {v : V} {k : Key} (r : Rp K F v (keyD k)) : v = kV k := by
  cases k with
  | inl i => cases r; rfl
  | inr i => cases r; rfl
theorem RpK.find {K : MpK} {F : Hp} (κ : Key) : ∀ {kvs : List (Key × V)} {ds : List (D × D)}, RpK K F kvs ds →
    match (ds.find? fun kv => decide (keyOf kv.1 = some κ)).map (·.2) with
    | some d => ∃ v, valV kvs κ = some v ∧ Rp K F v d
    | none => valV kvs κ = none
  | _, _, .nil => rfl
  | _, _, @RpK.cons _ _ k v vs d ds h r => by
    have ih := RpK.find κ r
    unfold valV
    by_cases hk : k = κ
    · rw [List.find?_cons, List.find?_cons]
      simp only [keyOf_keyD, hk, decide_true, Option.map_some]
      exact ⟨_, rfl, h⟩
    · rw [List.find?_cons, List.find?_cons]
      have e1 : decide (keyOf (keyD k) = some κ) = false := by rw [keyOf_keyD]; exact decide_eq_false fun z => hk (Option.some.inj z)
      have e2 : decide (k = κ) = false := decide_eq_false hk
      simp only [e1, e2]
      exact ih
theorem RpT.find {K : MpK} {F : Hp} (ks : List Key) : ∀ {xs : List (List Key × Addr × Value)} {ds : List (D × D)}, RpT K F xs ds →
    match (ds.find? fun kv => decide (tkOf kv.1 = some ks)).map (·.2) with
    | some d => ∃ p u v, atKey xs ks = some (p, u) ∧ RelV v u ∧ Rp K F v d
    | none => atKey xs ks = none
  | _, _, .nil => rfl
  | _, _, @RpT.cons _ _ k b u v vs d ds h1 h2 h3 h4 h r => by
    have ih := RpT.find ks r
    unfold atKey
    by_cases hk : k = ks
    · rw [List.find?_cons, List.find?_cons]
      simp only [tkOf, keysOf_map, hk, decide_true, Option.map_some]
      exact ⟨b, u, v, rfl, h4, h⟩
    · rw [List.find?_cons, List.find?_cons]
      have e1 : decide (tkOf (.tuple (k.map keyD)) = some ks) = false := by
        show decide (keysOf (k.map keyD) = some ks) = false
        rw [keysOf_map]; exact decide_eq_false fun z => hk (Option.some.inj z)
      have e2 : decide (k = ks) = false := decide_eq_false hk
      simp only [e1, e2]
      exact ih
theorem RpT.keysT {K : MpK} {F : Hp} : ∀ {xs : List (List Key × Addr × Value)} {ds : List (D × D)}, RpT K F xs ds → ∀ e ∈ xs, SqT K F e.2.1 (e.1.map kV)
  | _, _, .nil, e, he => by cases he
  | _, _, .cons h1 _ _ _ _ r, e, he => by
    rcases List.mem_cons.mp he with z | z
    · subst z; exact h1
    · exact r.keysT e z
/-- a tuple that stands is a key -/
theorem key_ofS {X : Cx} {pins : List (Addr × Obj)} {σ : L2.St} {H : Hp} {s : Shared} {b : Addr} {ks : List Key} (I : Inv X pins σ H s) (h : SqT X.K H b (ks.map kV)) : (tupleKind (mixKind X.prog X.w)).is s.heap ks b := by
  obtain ⟨its, r, ⟨o, h1, h2, n, h3⟩, _⟩ := I.tuple h
  exact ⟨o, its.toArray, n, h1, h2, h3, by simpa using items_are r⟩
theorem td_of {X : Cx} {pins : List (Addr × Obj)} {σ : L2.St} {H : Hp} {s : Shared} {a : Addr} {xs : List (List Key × Addr × Value)} (I : Inv X pins σ H s) (h : H a = some (TD X.prog X.w a xs)) (hk : ∀ e ∈ xs, SqT X.K H e.2.1 (e.1.map kV)) :
    (a == sysModules) = false ∧ s.heap.DictOfH (tupleKind (mixKind X.prog X.w)) a xs := by
  obtain ⟨⟨h1, o, es, ep, e1, e2, e3, e4, e5⟩, _⟩ := (show ObjOk X.prog X.w H s.heap a (TD X.prog X.w a xs) from I.hok a _ h)
  exact ⟨h1, o, es, ep, e1, e2, e3, e4, fun x hx => key_ofS I (hk x hx), e5⟩
theorem td_type {X : Cx} {pins : List (Addr × Obj)} {σ : L2.St} {H : Hp} {s : Shared} {a : Addr} {xs : List (List Key × Addr × Value)} (I : Inv X pins σ H s) (h : H a = some (TD X.prog X.w a xs)) : s.TypeIs (.ref a) "dict" := by
  obtain ⟨⟨h1, o, es, ep, e1, e2, e3, e4, e5⟩, _⟩ := (show ObjOk X.prog X.w H s.heap a (TD X.prog X.w a xs) from I.hok a _ h)
  exact ⟨o, e1, e2.1⟩
theorem atI_map {α β : Type} (f : α → β) (xs : List α) (i : Int) : atI (xs.map f) i = (atI xs i).map f := by
  unfold atI
  rw [List.length_map]
  cases ixN xs.length i with
  | none => rfl
  | some j => simp
theorem RpA.atI {K : MpK} {F : Hp} {vs : List V} {ds : List D} {i : Int} {d : D} (r : RpA K F vs ds) (h : L2.atI ds i = some d) : ∃ v, L2.atI vs i = some v ∧ Rp K F v d := by
  unfold L2.atI at h ⊢
  rw [r.length]
  cases e : ixN ds.length i with
  | none => rw [e] at h; cases h
  | some j => rw [e] at h; exact r.get h
theorem strOk_at {x : Str} {i : Int} {c : Nat} (h : PyData.strOk x = true) (e : L2.atI x.cps.toList i = some c) : PyData.strOk ⟨#[c]⟩ = true := by
  obtain ⟨j, _, e, _⟩ := atI_get e
  have hm : c ∈ x.cps := by
    have := List.mem_of_getElem? e
    simpa using this
  have h' : x.cps.all (· < 0x110000) = true := h
  have := (Array.all_eq_true'.mp h') c hm
  show (#[c]).all (· < 0x110000) = true
  simpa using this
theorem one_le {c : Nat} : (⟨#[c]⟩ : Str).length ≤ sizeLine := by
  show 1 ≤ sizeLine
  decide
def rIxDk (K : MpK) : R2 := fun x y H Q => ∃ a kvs k v, x = .ref a ∧ H a = some (.dK kvs) ∧ y = kV k ∧ valV kvs k = some v ∧ Q v H
theorem ix_dk {X : Cx} (hu : X.A.units + 65 < cLine) : IxR X (rIxDk X.kk) := by
  intro value slice pins s σ H x y v u Q I rx ry h hs
  obtain ⟨a, kvs, k, w, rfl, hd, rfl, hv, q⟩ := h
  cases rx
  have g : DGet H a (kV k) (some w) := by rw [← hv]; exact DGet.k hd
  exact tail_any (dict_typeIs I g) PySem.F.slot_dict_getitem.lookup (d_getItem (by omega) I g ry fun w' s3 I3 rw' => ⟨w, H, I3, rw', q⟩) hs
def rIxTD (K : MpK) : R2 := fun x y H Q => ∃ a xs ks b p u v, x = .ref a ∧ H a = some (TD K.P K.w a xs) ∧ (∀ e ∈ xs, SqT K.k H e.2.1 (e.1.map kV)) ∧ y = .ref b ∧ SqT K.k H b (ks.map kV) ∧ atKey xs ks = some (p, u) ∧ RelV v u ∧ Q v H
theorem ix_td {X : Cx} (hu : X.A.units + 65 < cLine) : IxR X (rIxTD X.kk) := by
  intro value slice pins s σ H x y v u Q I rx ry h hs
  obtain ⟨a, xs, ks, b, p, u', w, rfl, hd, hk, rfl, hb, hat, hv, q⟩ := h
  cases rx
  cases ry
  obtain ⟨_, dd⟩ := td_of I hd hk
  exact tail_any (td_type I hd) PySem.F.slot_dict_getitem.lookup (wpAny_getItem_heap (tupleKind_room_in1 (by omega)) (key_ofS I hb) dd hat ⟨w, H, I.tok _, hv, q⟩) hs
theorem ixs {X : Cx} (hu : X.A.units + 65 < cLine) : IxS X dIx := by
  refine ⟨_, ix_seq.or ((ix_dk hu).or (ix_td hu)), fun c W F H x y a b d Q st ra rb e q => ?_⟩
  cases a with
  | list ds =>
    cases b with
    | int i =>
      have rb := rb.flat rfl
      cases rb
      obtain ⟨a1, v1, rfl, h1, l1, r1⟩ := ra.list st.sub
      obtain ⟨v, h2, h3⟩ := r1.atI e
      exact .inl (.inl ⟨a1, v1, i, v, rfl, rfl, SqL.of h1, h2, q F H v st.refl rfl h3⟩)
    | _ => cases e
  | tuple ds =>
    cases b with
    | int i =>
      have rb := rb.flat rfl
      cases rb
      obtain ⟨a1, v1, rfl, h1, l1, r1⟩ := (ra.flat rfl).tupI
      obtain ⟨v, h2, h3⟩ := r1.atI e
      exact .inl (.inr (.inl ⟨a1, v1, i, v, rfl, rfl, SqT_same st.sub h1, h2, q F H v st.refl rfl h3⟩))
    | _ => cases e
  | str x =>
    cases b with
    | int i =>
      have rb := rb.flat rfl
      have ra := ra.flat rfl
      cases rb
      cases ra
      rename_i hx
      have e : (L2.atI x.cps.toList i).map (fun c => PyData.str ⟨#[c]⟩) = some d := e
      cases e1 : L2.atI x.cps.toList i with
      | none => rw [e1] at e; cases e
      | some k =>
        rw [e1] at e
        cases e
        exact .inl (.inr (.inr ⟨x, i, k, rfl, rfl, hx.2, e1, q F H _ st.refl rfl (.str _ ⟨strOk_at hx.1 e1, one_le⟩)⟩))
    | _ => cases e
  | dict kvs =>
    have e : dicGet kvs b = some d := e
    unfold dicGet at e
    cases hk : keyOf b with
    | none =>
      rw [hk] at e
      cases ht : tkOf b with
      | none => rw [ht] at e; cases e
      | some ks =>
        rw [ht] at e
        have e : (kvs.find? fun kv => decide (tkOf kv.1 = some ks)).map (·.2) = some d := e
        obtain ⟨a1, rfl, ⟨v1, h1, r1⟩ | ⟨v1, h1, hn, hl, r1⟩⟩ := ra.dict st.sub
        · exfalso
          have : ∀ {vs : List (Key × V)} {ds : List (D × D)}, RpK X.kk F vs ds → (ds.find? fun kv => decide (tkOf kv.1 = some ks)) = none := by
            intro vs ds r
            rw [List.find?_eq_none]
            intro kv hkv
            have : ∀ {vs : List (Key × V)} {ds : List (D × D)}, RpK X.kk F vs ds → ∀ kv ∈ ds, tkOf kv.1 = none := by
              intro vs ds r
              induction ds generalizing vs with
              | nil => intro kv h; cases h
              | cons p l ih =>
                intro kv hkv
                cases r with
                | @cons k _ _ _ _ _ r2 =>
                  rcases List.mem_cons.mp hkv with z | z
                  · subst z; cases k <;> rfl
                  · exact ih r2 kv z
            rw [this r kv hkv]
            simp
          rw [this r1] at e
          cases e
        · have := r1.find ks
          rw [e] at this
          obtain ⟨p, u, v, h2, h3, h4⟩ := this
          obtain rfl := tkOf_eq ht
          obtain ⟨b', rfl, hb, _, _⟩ := (rb.flat rfl).tkey
          exact .inr (.inr ⟨a1, v1, ks, b', p, u, v, rfl, h1, fun e he => SqT_same st.sub (r1.keysT e he), rfl, SqT_same st.sub hb, h2, h3, q F H v st.refl rfl h4⟩)
    | some κ =>
      rw [hk] at e
      have e : (kvs.find? fun kv => decide (keyOf kv.1 = some κ)).map (·.2) = some d := e
      obtain ⟨a1, rfl, ⟨v1, h1, r1⟩ | ⟨v1, h1, hn, hl, r1⟩⟩ := ra.dict st.sub
      · have := r1.find κ
        rw [e] at this
        obtain ⟨v, h2, h3⟩ := this
        obtain rfl := keyD_of hk
        have rb := (rb.flat (by cases κ <;> rfl)).key
        exact .inr (.inl ⟨a1, v1, κ, v, rfl, h1, rb, h2, q F H v st.refl rfl h3⟩)
      · exfalso
        have : ∀ {vs : List (List Key × Addr × Value)} {ds : List (D × D)}, RpT X.kk F vs ds → ∀ kv ∈ ds, keyOf kv.1 = none := by
          intro vs ds r
          induction ds generalizing vs with
          | nil => intro kv h; cases h
          | cons p l ih =>
            intro kv hkv
            cases r with
            | cons _ _ _ _ _ r2 =>
              rcases List.mem_cons.mp hkv with z | z
              · subst z; rfl
              · exact ih r2 kv z
        have e0 : (kvs.find? fun kv => decide (keyOf kv.1 = some κ)) = none := by
          rw [List.find?_eq_none]
          intro kv hkv
          rw [this r1 kv hkv]
          simp
        rw [e0] at e
        cases e
  | _ => cases b <;> cases e

/-! ## slices -/
abbrev Eo := Env → Cup → Res (Option Int)
def eoN : Eo := fun _ cp => .ok none cp
def eoS (f : Ev) : Eo := fun env cp => (f env cp).bind fun d cp1 => match d with
  | .int i => .ok (some i) cp1
  | _ => .bad
def tEo (K : MpK) (z : Z) (O : List Nat) (f : Eo) : TO := fun σ H Q => ∃ c W A env cp F, Pre K z.ci O c W A env cp F σ H ∧ Aft z.E c W F H (f env cp) fun o _ F' H' => Q o H'
structure QO (X : Cx) (z : Z) (O : List Nat) (e : Option Expr) (f : Eo) : Prop where
  po : PO X e (tEo X.kk z O f)
theorem PO.to {X : Cx} {e : Option Expr} {t t' : TO} (h : PO X e t) (k : ∀ σ H Q, t' σ H Q → t σ H Q) : PO X e t' := ⟨fun pins s σ H Q I q => h.run pins s σ H Q I (k _ _ _ q)⟩
section
variable {X : Cx} {z : Z} {O : List Nat}
theorem qo_n : QO X z O none eoN := ⟨PO.to po_none fun σ H Q ⟨c, W, A, env, cp, F, p, q⟩ => q F H p.refl p.cup⟩
theorem qo_s {e : Expr} {f : Ev} (h : QE X z O e f) : QO X z O (some e) (eoS f) := ⟨PO.to (po_some h.pe) fun σ H Q ⟨c, W, A, env, cp, F, p, q⟩ => ⟨c, W, A, env, cp, F, p, (Aft.bind q).imp fun d cp1 F1 H1 s1 e1 q v r => by
  cases d with
  | int i =>
    cases r
    exact ⟨i, rfl, q F1 H1 s1.sitStep e1⟩
  | _ => exact q.elim⟩⟩
def cutL {α : Type} (xs : List α) (lo hi : Option Int) : List α := (xs.drop (HT.sIx xs.length 0 lo)).take (HT.sIx xs.length xs.length hi - HT.sIx xs.length 0 lo)
def dSl : D → Option Int → Option Int → Option D
  | .list ds, lo, hi => some (.list (cutL ds lo hi))
  | .tuple ds, lo, hi => some (.tuple (cutL ds lo hi))
  | .str x, lo, hi => some (.str ⟨(cutL x.cps.toList lo hi).toArray⟩)
  | _, _, _ => none
def eSl (a : Ev) (lo hi : Eo) : Ev := fun env cp => (a env cp).bind fun x cp1 => (lo env cp1).bind fun l cp2 => (hi env cp2).bind fun h cp3 => match dSl x l h with
  | some d => .ok d cp3
  | none => .bad
theorem RpA.cut {K : MpK} {F : Hp} {vs : List V} {ds : List D} (r : RpA K F vs ds) (lo hi : Option Int) : RpA K F (cutV vs lo hi) (cutL ds lo hi) := by
  unfold cutV cutL
  rw [r.length]
  exact (r.drop _).take _
theorem strOk_sub {x : Str} {l : List Nat} (h : PyData.strOk x = true) (k : ∀ c ∈ l, c ∈ x.cps.toList) : PyData.strOk ⟨l.toArray⟩ = true := by
  have h' : x.cps.all (· < 0x110000) = true := h
  show (l.toArray).all (· < 0x110000) = true
  rw [Array.all_eq_true']
  intro c hc
  exact (Array.all_eq_true'.mp h') c (by simpa using k c (by simpa using hc))
theorem cut_mem {α : Type} {xs : List α} {lo hi : Option Int} {c : α} (h : c ∈ cutL xs lo hi) : c ∈ xs := List.mem_of_mem_drop (List.mem_of_mem_take h)
theorem cut_len (xs : List Nat) (lo hi : Option Int) : (⟨(cutL xs lo hi).toArray⟩ : Str).length ≤ xs.length := by
  show (cutL xs lo hi).toArray.size ≤ _
  rw [List.size_toArray]
  unfold cutL
  rw [List.length_take, List.length_drop]
  omega
theorem q_sl {a : Expr} {lo hi : Option Expr} {p2 pos : Pos} {fa : Ev} {fl fh : Eo} (ha : QP X z O a fa) (hl : QO X z O lo fl) (hh : QO X z O hi fh) : QF X z O (.Subscript a (.Slice lo hi none p2) pos) (eSl fa fl fh) := by
  refine ⟨PE.to (pe_slice (sl_list.or (sl_tupA.or sl_str)) ha.pe hl.po hh.po) ?_⟩
  rintro σ H Q ⟨c, W, A, env, cp, F, p, q⟩
  refine ⟨c, W, A, env, cp, F, p, (Aft.bind q).imp fun a cp1 F1 H1 s1 e1 q1 v1 r1 => ⟨c, W, A, env, cp1, F1, p.step s1 e1, (Aft.bind q1).imp fun l cp2 F2 H2 s2 e2 q2 => ⟨c, W, A, env, cp2, F2, (p.step s1 e1).step s2 e2, (Aft.bind q2).imp fun h cp3 F3 H3 s3 e3 q3 => ?_⟩⟩⟩
  have st := ((p.sit.step s1 e1).step s2 e2).step s3 e3
  have r1 := (r1.step s2).step s3
  have back : ∀ {F' H' v d}, Fr X.kk H3 F' H' v d → Fr X.kk H F' H' v d := fun f => (((f.back s3 e3).back s2 e2).back s1 e1)
  cases a with
  | list ds =>
    obtain ⟨a1, v1, rfl, h1, l1, r1⟩ := r1.list st.sub
    exact .inl ⟨a1, _, rfl, SqL.of h1, fun p hp => q3 _ _ (st.new hp) ((st.keepc hp).trans e3) _ (back (fr_new st hp (Nat.le_trans (cutV_length _ _ _) l1) (r1.cut l h)))⟩
  | tuple ds =>
    obtain ⟨a1, v1, rfl, h1, l1, r1⟩ := (r1.flat rfl).tupI
    refine .inr (.inl ⟨a1, v1, rfl, SqT_same st.sub h1, fun w => q3 _ _ st.refl e3 _ (fr_flat (.tup h1 l1 ?_)), fun w p hp => q3 _ _ (st.newF hp) ((st.keepc hp).trans e3) _ (back (fr_newT st hp (Nat.le_trans (cutV_length _ _ _) l1) (r1.cut l h)))⟩)
    have e : cutL ds l h = ds := by
      unfold cutL
      rw [← r1.length, w.1, w.2, List.drop_zero, Nat.sub_zero, r1.length, List.take_length]
    rw [e]
    exact r1
  | str x =>
    have r1 := r1.flat rfl
    cases r1 with
    | str _ hx =>
    have e5 : cutS x l h = ⟨(cutL x.cps.toList l h).toArray⟩ := by
      unfold cutS cutL
      rw [Array.length_toList]
      rfl
    refine .inr (.inr ⟨x, rfl, hx.2, ?_⟩)
    rw [e5]
    exact q3 _ _ st.refl e3 _ (fr_flat (.str _ ⟨strOk_sub hx.1 fun c hc => cut_mem hc, Nat.le_trans (cut_len _ _ _) (by rw [Array.length_toList]; exact hx.2)⟩))
  | _ => exact q3.elim
end
end MP
namespace MP
open PySem PySem.Spec PyProof.Rows L2

/-! ## calls of built-ins, by values -/
def ClA (X : Cx) (r : List V → Hp → VK → Prop) (op : List D → Option D) : Prop := ∀ (c : Addr) (W : Addr → Prop) (F H : Hp) (xs : List V) (ds : List D) (d : D) (Q : VK), Sit c W F H → PkA X.kk c F H xs ds → op ds = some d →
  (∀ F' H' v, Stp c W F H F' H' → H' c = H c → Fr X.kk H F' H' v d → Q v H') → r xs H Q
def CaS (X : Cx) (f : Value) (op : List D → Option D) : Prop := ∃ r, CallR X f r ∧ ClA X r op
def eCa (op : List D → Option D) (f : Evs) : Ev := fun env cp => (f env cp).bind fun ds cp1 => match op ds with
  | some d => .ok d cp1
  | none => .bad
section
variable {X : Cx} {z : Z} {O : List Nat}
theorem clA_go {r : List V → Hp → VK → Prop} {op : List D → Option D} (go : ClA X r op) {f : Evs} : ∀ σ H Q, tFr X.kk z O (eCa op f) σ H Q → tCB r (tPks X.kk z O f) σ H Q := by
  rintro σ H Q ⟨c, W, A, env, cp, F, p, q⟩
  refine ⟨c, W, A, env, cp, F, p, (Aft.bind q).imp fun ds cp1 F1 H1 s1 e1 q1 vs r1 => ?_⟩
  cases e : op ds with
  | none => simp only [e] at q1; exact q1.elim
  | some d =>
    simp only [e] at q1
    exact go c W F1 H1 vs ds d Q (p.sit.step s1 e1) r1 e fun F' H' v s k f => q1 F' H' s (k.trans e1) v (f.back s1 e1)
theorem q_callB {id : String} {x : Str} {p pos : Pos} {e : Expr} {es : List Expr} {op : List D → Option D} {f : Evs} (h : CaS X (.builtin id) op) (hm : X.mg x = none) (hv : bootBuiltins x = some (.builtin id)) (ha : QPA X z O (e :: es) f)
    (hg : Gl X x := by rfl) (hn : x ≠ "__name__" := by decide) (hdb : (x == ("__debug__" : Str)) = false := by decide)
    (he : starEach (e :: es) X.env = (false, eval e X.env) :: starEach es X.env := by rfl) (hpl : (backTo pos (starEach es X.env)).any (·.1) = false := by rfl) : QF X z O (.Call (.Name x p) (e :: es) [] pos) (eCa op f) := by
  obtain ⟨r, hr, go⟩ := h
  exact ⟨PE.to (pe_callB hr hg hm hv ha.pa hn hdb he hpl) (clA_go go)⟩
theorem q_callTy {T : String} {x : Str} {p pos : Pos} {e : Expr} {es : List Expr} {op : List D → Option D} {f : Evs} (h : CaS X (.type T) op) (hm : X.mg x = none) (hv : bootBuiltins x = some (.type T)) (ha : QPA X z O (e :: es) f)
    (hg : Gl X x := by rfl) (hn : x ≠ "__name__" := by decide) (hdb : (x == ("__debug__" : Str)) = false := by decide)
    (he : starEach (e :: es) X.env = (false, eval e X.env) :: starEach es X.env := by rfl) (hpl : (backTo pos (starEach es X.env)).any (·.1) = false := by rfl) : QF X z O (.Call (.Name x p) (e :: es) [] pos) (eCa op f) := by
  obtain ⟨r, hr, go⟩ := h
  exact ⟨PE.to (pe_callTy hr hg hm hv ha.pa hn hdb he hpl) (clA_go go)⟩
end
theorem PkA.one {K : MpK} {c : Addr} {F H : Hp} {vs : List V} {d : D} (r : PkA K c F H vs [d]) : ∃ v, vs = [v] ∧ Pk K c F H v d := by
  cases r with
  | cons h r => cases r; exact ⟨_, rfl, h⟩
theorem PkA.two {K : MpK} {c : Addr} {F H : Hp} {vs : List V} {d e : D} (r : PkA K c F H vs [d, e]) : ∃ v w, vs = [v, w] ∧ Pk K c F H v d ∧ Pk K c F H w e := by
  cases r with
  | cons h r =>
    cases r with
    | cons h' r => cases r; exact ⟨_, _, rfl, h, h'⟩
section
variable {X : Cx}
/-! ### len, abs, min, max of two intsOf -/
def bLen : List D → Option D
  | [.list ds] => some (.int ds.length)
  | [.tuple ds] => some (.int ds.length)
  | [.str x] => some (.int x.length)
  | [.dict ds] => some (.int ds.length)
  | _ => none
theorem RpT.length {K : MpK} {F : Hp} : ∀ {vs : List (List Key × Addr × Value)} {ds : List (D × D)}, RpT K F vs ds → vs.length = ds.length
  | _, _, .nil => rfl
  | _, _, .cons _ _ _ _ _ r => by rw [List.length_cons, List.length_cons, RpT.length r]
theorem call_len_td : CallR X (.builtin "len") (fun xs H Q => ∃ (p : Addr) (ks : List (List Key × Addr × Value)), xs = [.ref p] ∧ H p = some (TD X.prog X.w p ks) ∧ (∀ e ∈ ks, SqT X.K H e.2.1 (e.1.map kV)) ∧ ks.length ≤ sizeLine ∧ Q (.int ((ks.length : Nat) : Int)) H) := by
  intro pins s σ H xs us Q I r h
  obtain ⟨p, ks, rfl, hp, hk, hl, q⟩ := h
  obtain ⟨u, rfl, rx⟩ := vals1 r
  obtain rfl : u = .ref p := rx
  obtain ⟨z, dd⟩ := td_of I hp hk
  exact call_len_dictH z dd (by rw [sizeLine_eq] at hl; omega) ⟨.int ((ks.length : Nat) : Int), H, I.tok _, ⟨_, rfl⟩, q⟩
theorem RpK.length {K : MpK} {F : Hp} : ∀ {vs : List (Key × V)} {ds : List (D × D)}, RpK K F vs ds → vs.length = ds.length
  | _, _, .nil => rfl
  | _, _, .cons _ r => by rw [List.length_cons, List.length_cons, RpK.length r]
theorem cas_len : CaS X (.builtin "len") bLen := by
  refine ⟨_, call_len.or (call_lenD.or call_len_td), fun c W F H xs ds d Q st r e q => ?_⟩
  match ds, e with
  | [.list ds], e =>
    have ro := r.one; clear r; obtain ⟨v, rfl, r⟩ := ro
    obtain ⟨a1, v1, rfl, h1, l1, r1⟩ := r.list st.sub
    cases e
    exact .inl ⟨_, _, rfl, .inl ⟨_, SqL.of h1, rfl⟩, by rw [r1.length]; exact q F H _ st.refl rfl (fr_flat (.int _))⟩
  | [.tuple ds], e =>
    have ro := r.one; clear r; obtain ⟨v, rfl, r⟩ := ro
    obtain ⟨a1, v1, rfl, h1, l1, r1⟩ := (r.flat rfl).tupI
    cases e
    exact .inl ⟨_, _, rfl, .inr ⟨_, SqT_same st.sub h1, rfl⟩, by rw [r1.length]; exact q F H _ st.refl rfl (fr_flat (.int _))⟩
  | [.str x], e =>
    have ro := r.one; clear r; obtain ⟨v, rfl, r⟩ := ro
    have r := r.flat rfl
    cases r with
    | str _ hx =>
    cases e
    exact .inl ⟨_, _, rfl, ⟨hx.2, rfl⟩, q F H _ st.refl rfl (fr_flat (.int _))⟩
  | [.dict ds], e =>
    have ro := r.one; clear r; obtain ⟨v, rfl, r⟩ := ro
    obtain ⟨a1, rfl, ⟨v1, h1, r1⟩ | ⟨v1, h1, hn, hl, r1⟩⟩ := r.dict st.sub
    · cases e
      exact .inr (.inl ⟨_, _, rfl, h1, by rw [r1.length]; exact q F H _ st.refl rfl (fr_flat (.int _))⟩)
    · cases e
      exact .inr (.inr ⟨_, _, rfl, h1, fun e he => SqT_same st.sub (r1.keysT e he), hl, by rw [r1.length]; exact q F H _ st.refl rfl (fr_flat (.int _))⟩)
def bAbs : List D → Option D
  | [.int i] => some (.int (if i < 0 then -i else i))
  | _ => none
theorem cas_abs : CaS X (.builtin "abs") bAbs := by
  refine ⟨_, call_abs, fun c W F H xs ds d Q st r e q => ?_⟩
  match ds, e with
  | [.int i], e =>
    have ro := r.one; clear r; obtain ⟨v, rfl, r⟩ := ro
    have r := r.flat rfl
    cases r
    cases e
    exact ⟨i, rfl, q F H _ st.refl rfl (fr_flat (.int _))⟩
def bInt : List D → Option D
  | [.int i] => some (.int i)
  | [.bool k] => some (.int (if k then 1 else 0))
  | _ => none
theorem cas_int : CaS X (.type "int") bInt := by
  refine ⟨_, call_int1, fun c W F H xs ds d Q st r e q => ?_⟩
  match ds, e with
  | [.int i], e =>
    have ro := r.one; clear r; obtain ⟨v, rfl, r⟩ := ro
    have r := r.flat rfl
    cases r
    cases e
    exact .inl ⟨i, rfl, q F H _ st.refl rfl (fr_flat (.int _))⟩
  | [.bool i], e =>
    have ro := r.one; clear r; obtain ⟨v, rfl, r⟩ := ro
    have r := r.flat rfl
    cases r
    cases e
    exact .inr ⟨i, rfl, q F H _ st.refl rfl (fr_flat (.int _))⟩
/-! all, any: lists of bools -/
def bools : List D → Option (List Bool)
  | [] => some []
  | .bool b :: r => (bools r).map (b :: ·)
  | _ => none
theorem bools_eq : ∀ {ds : List D} {bs : List Bool}, bools ds = some bs → ds = bs.map .bool
  | [], _, e => by cases e; rfl
  | .bool b :: r, bs, e => by
    unfold bools at e
    cases e1 : bools r with
    | none => rw [e1] at e; cases e
    | some cs => rw [e1] at e; cases e; rw [bools_eq e1]; rfl
theorem RpA.bls {K : MpK} {F : Hp} {vs : List V} {bs : List Bool} (r : RpA K F vs (bs.map PyData.bool)) : vs = bs.map V.bl := by
  induction bs generalizing vs with
  | nil =>
    have r' : RpA K F vs [] := r
    cases r'
    rfl
  | cons b bs ih =>
    have r' : RpA K F vs (PyData.bool b :: bs.map PyData.bool) := r
    cases r' with
    | cons h r2 =>
      cases h
      rw [ih r2, List.map_cons]
def bAll : List D → Option D
  | [.list ds] => (bools ds).map fun bs => .bool (bs.all id)
  | _ => none
def bAny : List D → Option D
  | [.list ds] => (bools ds).map fun bs => .bool (bs.any id)
  | _ => none
theorem cas_all (hc : X.calm = true) : CaS X (.builtin "all") bAll := by
  refine ⟨_, cr_all hc, fun c W F H xs ds d Q st r e q => ?_⟩
  match ds, e with
  | [.list ds], e =>
    have ro := r.one; clear r; obtain ⟨v, rfl, r⟩ := ro
    obtain ⟨a1, v1, rfl, h1, l1, r1⟩ := r.list st.sub
    have e : (bools ds).map (fun bs => PyData.bool (bs.all id)) = some d := e
    cases e1 : bools ds with
    | none => rw [e1] at e; cases e
    | some bs =>
      rw [e1] at e
      cases e
      obtain rfl := bools_eq e1
      obtain rfl := r1.bls
      exact ⟨a1, bs, rfl, SqL.of h1, q F H _ st.refl rfl (fr_flat (.bl _))⟩
theorem cas_any (hc : X.calm = true) : CaS X (.builtin "any") bAny := by
  refine ⟨_, cr_any hc, fun c W F H xs ds d Q st r e q => ?_⟩
  match ds, e with
  | [.list ds], e =>
    have ro := r.one; clear r; obtain ⟨v, rfl, r⟩ := ro
    obtain ⟨a1, v1, rfl, h1, l1, r1⟩ := r.list st.sub
    have e : (bools ds).map (fun bs => PyData.bool (bs.any id)) = some d := e
    cases e1 : bools ds with
    | none => rw [e1] at e; cases e
    | some bs =>
      rw [e1] at e
      cases e
      obtain rfl := bools_eq e1
      obtain rfl := r1.bls
      exact ⟨a1, bs, rfl, SqL.of h1, q F H _ st.refl rfl (fr_flat (.bl _))⟩
/-! lists of whole numbers: sum, min, max -/
def intsOf : List D → Option (List Int)
  | [] => some []
  | .int b :: r => (intsOf r).map (b :: ·)
  | _ => none
theorem ints_eq : ∀ {ds : List D} {bs : List Int}, intsOf ds = some bs → ds = bs.map .int
  | [], _, e => by cases e; rfl
  | .int b :: r, bs, e => by
    unfold intsOf at e
    cases e1 : intsOf r with
    | none => rw [e1] at e; cases e
    | some cs => rw [e1] at e; cases e; rw [ints_eq e1]; rfl
theorem RpA.intz {K : MpK} {F : Hp} {vs : List V} {bs : List Int} (r : RpA K F vs (bs.map PyData.int)) : vs = bs.map V.int := by
  induction bs generalizing vs with
  | nil =>
    have r' : RpA K F vs [] := r
    cases r'
    rfl
  | cons b bs ih =>
    have r' : RpA K F vs (PyData.int b :: bs.map PyData.int) := r
    cases r' with
    | cons h r2 =>
      cases h
      rw [ih r2, List.map_cons]
def bSum : List D → Option D
  | [.list ds] => (intsOf ds).map fun bs => .int bs.sum
  | _ => none
theorem cas_sum (hc : X.calm = true) : CaS X (.builtin "sum") bSum := by
  refine ⟨_, cr_sum hc, fun c W F H xs ds d Q st r e q => ?_⟩
  match ds, e with
  | [.list ds], e =>
    have ro := r.one; clear r; obtain ⟨v, rfl, r⟩ := ro
    obtain ⟨a1, v1, rfl, h1, l1, r1⟩ := r.list st.sub
    have e : (intsOf ds).map (fun bs => PyData.int bs.sum) = some d := e
    cases e1 : intsOf ds with
    | none => rw [e1] at e; cases e
    | some bs =>
      rw [e1] at e
      cases e
      obtain rfl := ints_eq e1
      obtain rfl := r1.intz
      exact ⟨a1, bs, rfl, SqL.of h1, q F H _ st.refl rfl (fr_flat (.int _))⟩
def maxI : List Int → Option Int
  | [] => none
  | x :: xs => some (xs.foldl max x)
def minI : List Int → Option Int
  | [] => none
  | x :: xs => some (xs.foldl min x)
theorem foldl_max_spec : ∀ (xs : List Int) (x : Int), (xs.foldl max x ∈ x :: xs) ∧ ∀ y ∈ x :: xs, y ≤ xs.foldl max x
  | [], x => ⟨by simp, by simp⟩
  | a :: xs, x => by
    obtain ⟨h1, h2⟩ := foldl_max_spec xs (max x a)
    rw [List.foldl_cons]
    refine ⟨?_, fun y hy => ?_⟩
    · rcases List.mem_cons.mp h1 with e | h
      · rw [e]
        by_cases h : x ≤ a
        · rw [Int.max_eq_right h]; simp
        · rw [Int.max_eq_left (by omega)]; simp
      · exact List.mem_cons_of_mem _ (List.mem_cons_of_mem _ h)
    · have h3 := h2 (max x a) List.mem_cons_self
      rcases List.mem_cons.mp hy with rfl | hy
      · omega
      · rcases List.mem_cons.mp hy with rfl | hy
        · omega
        · exact h2 y (List.mem_cons_of_mem _ hy)
theorem foldl_min_spec : ∀ (xs : List Int) (x : Int), (xs.foldl min x ∈ x :: xs) ∧ ∀ y ∈ x :: xs, xs.foldl min x ≤ y
  | [], x => ⟨by simp, by simp⟩
  | a :: xs, x => by
    obtain ⟨h1, h2⟩ := foldl_min_spec xs (min x a)
    rw [List.foldl_cons]
    refine ⟨?_, fun y hy => ?_⟩
    · rcases List.mem_cons.mp h1 with e | h
      · rw [e]
        by_cases h : x ≤ a
        · rw [Int.min_eq_left h]; simp
        · rw [Int.min_eq_right (by omega)]; simp
      · exact List.mem_cons_of_mem _ (List.mem_cons_of_mem _ h)
    · have h3 := h2 (min x a) List.mem_cons_self
      rcases List.mem_cons.mp hy with rfl | hy
      · omega
      · rcases List.mem_cons.mp hy with rfl | hy
        · omega
        · exact h2 y (List.mem_cons_of_mem _ hy)
def bMax : List D → Option D
  | [.list ds] => (intsOf ds).bind fun bs => (maxI bs).map .int
  | [.int i, .int j] => some (.int (max i j))
  | _ => none
def bMin : List D → Option D
  | [.list ds] => (intsOf ds).bind fun bs => (minI bs).map .int
  | [.int i, .int j] => some (.int (min i j))
  | _ => none
theorem cas_max (hc : X.calm = true) : CaS X (.builtin "max") bMax := by
  refine ⟨_, (cr_max hc).or (call_max2 hc), fun c W F H xs ds d Q st r e q => ?_⟩
  match ds, e with
  | [.list ds], e =>
    have ro := r.one; clear r; obtain ⟨v, rfl, r⟩ := ro
    obtain ⟨a1, v1, rfl, h1, l1, r1⟩ := r.list st.sub
    have e : ((intsOf ds).bind fun bs => (maxI bs).map PyData.int) = some d := e
    have e' := e
    clear e
    cases e1 : intsOf ds with
    | none => rw [e1] at e'; cases e'
    | some bs =>
      have e9 : (maxI bs).map PyData.int = some d := by rw [e1] at e'; exact e'
      clear e'
      obtain rfl := ints_eq e1
      obtain rfl := r1.intz
      cases bs with
      | nil => cases e9
      | cons x xs =>
        cases e9
        obtain ⟨k1, k2⟩ := foldl_max_spec xs x
        refine .inl ⟨a1, x :: xs, rfl, SqL.of h1, Nat.succ_pos _, fun m hm hy => ?_⟩
        have : m = xs.foldl max x := by
          have h1 := k2 m hm
          have h2 := hy _ k1
          omega
        rw [this]
        exact q F H _ st.refl rfl (fr_flat (.int _))
  | [.int i, .int j], e =>
    have ro := r.two; clear r; obtain ⟨v, w, rfl, r, r'⟩ := ro
    have r := r.flat rfl
    have r' := r'.flat rfl
    cases r; cases r'; cases e
    refine .inr ⟨i, j, rfl, ?_⟩
    have : (if j > i then j else i) = max i j := by split <;> omega
    rw [this]
    exact q F H _ st.refl rfl (fr_flat (.int _))
theorem cas_min (hc : X.calm = true) : CaS X (.builtin "min") bMin := by
  refine ⟨_, (cr_min hc).or (call_min2 hc), fun c W F H xs ds d Q st r e q => ?_⟩
  match ds, e with
  | [.list ds], e =>
    have ro := r.one; clear r; obtain ⟨v, rfl, r⟩ := ro
    obtain ⟨a1, v1, rfl, h1, l1, r1⟩ := r.list st.sub
    have e : ((intsOf ds).bind fun bs => (minI bs).map PyData.int) = some d := e
    have e' := e
    clear e
    cases e1 : intsOf ds with
    | none => rw [e1] at e'; cases e'
    | some bs =>
      have e9 : (minI bs).map PyData.int = some d := by rw [e1] at e'; exact e'
      clear e'
      obtain rfl := ints_eq e1
      obtain rfl := r1.intz
      cases bs with
      | nil => cases e9
      | cons x xs =>
        cases e9
        obtain ⟨k1, k2⟩ := foldl_min_spec xs x
        refine .inl ⟨a1, x :: xs, rfl, SqL.of h1, Nat.succ_pos _, fun m hm hy => ?_⟩
        have : m = xs.foldl min x := by
          have h1 := k2 m hm
          have h2 := hy _ k1
          omega
        rw [this]
        exact q F H _ st.refl rfl (fr_flat (.int _))
  | [.int i, .int j], e =>
    have ro := r.two; clear r; obtain ⟨v, w, rfl, r, r'⟩ := ro
    have r := r.flat rfl
    have r' := r'.flat rfl
    cases r; cases r'; cases e
    refine .inr ⟨i, j, rfl, ?_⟩
    have : (if j < i then j else i) = min i j := by split <;> omega
    rw [this]
    exact q F H _ st.refl rfl (fr_flat (.int _))
/-! list(x), tuple(x) of lists and tuples -/
def bList : List D → Option D
  | [.list ds] => some (.list ds)
  | [.tuple ds] => some (.list ds)
  | _ => none
theorem cas_list : CaS X (.type "list") bList := by
  refine ⟨_, call_list_of, fun c W F H xs ds d Q st r e q => ?_⟩
  match ds, e with
  | [.list ds], e =>
    have ro := r.one; clear r; obtain ⟨v, rfl, r⟩ := ro
    obtain ⟨a1, v1, rfl, h1, l1, r1⟩ := r.list st.sub
    cases e
    exact ⟨a1, v1, rfl, .inl (SqL.of h1), fun p hp => q _ _ _ (st.new hp) (st.keepc hp) (fr_new st hp l1 r1)⟩
  | [.tuple ds], e =>
    have ro := r.one; clear r; obtain ⟨v, rfl, r⟩ := ro
    obtain ⟨a1, v1, rfl, h1, l1, r1⟩ := (r.flat rfl).tupI
    cases e
    exact ⟨a1, v1, rfl, .inr (SqT_same st.sub h1), fun p hp => q _ _ _ (st.new hp) (st.keepc hp) (fr_new st hp l1 r1)⟩
def bTuple : List D → Option D
  | [.list ds] => some (.tuple ds)
  | [.tuple ds] => some (.tuple ds)
  | _ => none
theorem cas_tuple : CaS X (.type "tuple") bTuple := by
  refine ⟨_, call_tuple_of, fun c W F H xs ds d Q st r e q => ?_⟩
  match ds, e with
  | [.list ds], e =>
    have ro := r.one; clear r; obtain ⟨v, rfl, r⟩ := ro
    obtain ⟨a1, v1, rfl, h1, l1, r1⟩ := r.list st.sub
    cases e
    exact ⟨a1, v1, rfl, .inl ⟨SqL.of h1, fun p hp => q _ _ _ (st.newF hp) (st.keepc hp) (fr_newT st hp l1 r1)⟩⟩
  | [.tuple ds], e =>
    have ro := r.one; clear r; obtain ⟨v, rfl, r⟩ := ro
    obtain ⟨a1, v1, rfl, h1, l1, r1⟩ := (r.flat rfl).tupI
    cases e
    exact ⟨a1, v1, rfl, .inr ⟨SqT_same st.sub h1, q _ _ _ st.refl rfl (fr_flat (.tup h1 l1 r1))⟩⟩
end
/-! isinstance -/
def tyN : D → String
  | .none => "NoneType"
  | .bool _ => "bool"
  | .int _ => "int"
  | .str _ => "str"
  | .list _ => "list"
  | .tuple _ => "tuple"
  | .dict _ => "dict"
def isiB (T : String) (d : D) : Option Bool := match d with
  | .dict ds => if flatKeys ds then kitB "dict" T else none
  | d => kitB (tyN d) T
def eIsi (T : String) (f : Ev) : Ev := fun env cp => (f env cp).bind fun d cp1 => match isiB T d with
  | some b => .ok (.bool b) cp1
  | none => .bad
theorem Pk.ty {K : MpK} {c : Addr} {F H : Hp} {v : V} {d : D} (sub : Same F H) (r : Pk K c F H v d) (fk : ∀ ds, d = .dict ds → flatKeys ds = true) : TyX K H v (.type (tyN d)) := by
  cases d with
  | list ds => obtain ⟨a1, v1, rfl, h1, l1, r1⟩ := r.list sub; exact .base (.lst h1)
  | dict ds => obtain ⟨a1, v1, rfl, h1, r1⟩ := r.dictK sub (fk ds rfl); exact .base (.dK h1)
  | tuple ds =>
    obtain ⟨a1, v1, rfl, h1, l1, r1⟩ := (r.flat rfl).tupI
    rcases SqT_same sub h1 with (h | ⟨o, h⟩) | ⟨o, its, n, h, h2, _⟩
    · exact .base (.tup h)
    · exact .fTuple h
    · exact .kTuple h h2
  | none => have r := r.flat rfl; cases r; exact .base .non
  | bool => have r := r.flat rfl; cases r; exact .base (.bl _)
  | int => have r := r.flat rfl; cases r; exact .base (.int _)
  | str => have r := r.flat rfl; cases r; exact .base (.str _)
theorem isiB_eq {T : String} {d : D} {b : Bool} (e : isiB T d = some b) : (∀ ds, d = .dict ds → flatKeys ds = true) ∧ kitB (tyN d) T = some b := by
  cases d with
  | dict ds =>
    unfold isiB at e
    dsimp only at e
    split at e
    · rename_i h
      exact ⟨fun ds' z => by cases z; exact h, e⟩
    · cases e
  | _ => exact ⟨fun ds' z => by (cases z), e⟩
section
variable {X : Cx} {z : Z} {O : List Nat}
theorem q_isi {T : String} {y : Str} {a : Expr} {p p2 pos : Pos} {f : Ev} (hm : X.mg "isinstance" = none) (hmy : X.mg y = none) (hv : bootBuiltins y = some (.type T)) (ha : QP X z O a f)
    (hg : Gl X "isinstance" := by rfl) (hgy : Gl X y := by rfl) (hny : y ≠ "__name__" := by decide) (hdy : (y == ("__debug__" : Str)) = false := by decide)
    (he : starEach [a, .Name y p2] X.env = (false, eval a X.env) :: starEach [.Name y p2] X.env := by rfl) (hpl : (backTo pos (starEach [.Name y p2] X.env)).any (·.1) = false := by rfl) : QE X z O (.Call (.Name "isinstance" p) [a, .Name y p2] [] pos) (eIsi T f) := by
  refine ⟨PE.to (pe_callB (call_isi) hg hm (by decide +kernel) (pa_cons ha.pe (pa_cons (pe_bltn hgy hmy hv (v := .ty T) rfl hny hdy) pa_nil (by rfl)) he) (by decide) (by decide) he hpl) ?_⟩
  rintro σ H Q ⟨c, W, A, env, cp, F, p, q⟩
  refine ⟨c, W, A, env, cp, F, p, (Aft.bind q).imp fun d cp1 F1 H1 s1 e1 q1 v r => ?_⟩
  have st := p.sit.step s1 e1
  cases e : isiB T d with
  | none => simp only [e] at q1; exact q1.elim
  | some b =>
    simp only [e] at q1
    have e2 := isiB_eq e
    exact ⟨v, .ty T, _, _, b, rfl, .ty T, r.ty st.sub e2.1, kit_ty e2.2, q1 F1 H1 st.refl e1 _ (.bl b)⟩

/-! ## calls of the text's own defs -/
def Er (mg : Str → Option Value) (E : XK) : Str → Hp → Prop := fun e H => ∀ C, mg e = some (.ref C) → E (.ref C) none H
abbrev Mean := List D → Cup → Res D
def spM (K : MpK) (mg : Str → Option Value) (uc : Bool) (n : Nat) (M : Mean) : Sp := fun vs H Q E => vs.length = n ∧ ∃ c W F cp ds vs', vs = (if uc = true then [V.ref c] else []) ++ vs' ∧ Sit c W F H ∧ H c = some (cupV cp) ∧ RpA K F vs' ds ∧
  Aft (Er mg E) c W F H (M ds cp) fun d _ F' H' => ∀ v, Rp K F' v d → Q v H'
def FnV (P : Program) (w : World) (K : PySem.W.Frag) (mg : Str → Option Value) (base : Heap) (k : Nat) (x : Str) (ps : List Str) (uc : Bool) (M : Mean) : Prop :=
  ∃ f fd, FnOk P w K mg base (L2.CX P w) k f fd ps (spM ⟨K, P, w⟩ mg uc ps.length M) ∧ mg x = some (.ref f) ∧ PySem.W.keepIn K (.ref f) = true ∧ Binds K fd ps []
/-- exceptions of callees reach where the context wants them -/
def ZP (X : Cx) (z : Z) : Prop := ∃ E : XK, Passes (L2.CX X.prog X.w) X E ∧ ∀ e H', z.E e H' → Er X.mg E e H'
def eCall (M : Mean) (f : Evs) : Ev := fun env cp => (f env cp).bind M
theorem q_call {k : Nat} {x : Str} {ps : List Str} {M : Mean} {p pos : Pos} {e : Expr} {es : List Expr} {f : Evs} (G : FnV X.prog X.w X.kk X.mg X.base k x ps false M) (hr : Room k X.A) (zp : ZP X z) (ha : QA X z O (e :: es) f) (hl : (e :: es).length = ps.length := by rfl)
    (hg : Gl X x := by rfl) (hdb : (x == ("__debug__" : Str)) = false := by decide) (he : starEach (e :: es) X.env = (false, eval e X.env) :: starEach es X.env := by rfl) (hpl : (backTo pos (starEach es X.env)).any (·.1) = false := by rfl) :
    QE X z O (.Call (.Name x p) (e :: es) [] pos) (eCall M f) := by
  obtain ⟨fa, fd, G, hm, hk, hb⟩ := G
  obtain ⟨E, hx, hz⟩ := zp
  refine ⟨PE.to (pe_call G hr hg hm hk hb .nil hx ha.pa hdb he hpl) ?_⟩
  rintro σ H Q ⟨c, W, A, env, cp, F, p, q⟩
  refine ⟨c, W, A, env, cp, F, p, ?_⟩
  have hn := ha.len env cp
  unfold eCall at q
  generalize f env cp = r at q hn
  cases r with
  | ok ds cp1 =>
    intro F1 H1 s1 e1 vs rs
    have st := p.sit.step s1 e1
    rw [List.append_nil]
    refine ⟨by rw [rs.length, hn ds cp1 rfl]; exact hl, c, W, F1, cp1, ds, vs, rfl, st, e1, rs, ?_⟩
    have q' : Aft z.E c W F H (M ds cp1) fun d _ F' H' => ∀ v, Rp X.kk F' v d → Q v H' := q
    generalize M ds cp1 = r at q'
    cases r with
    | ok d cp2 => exact fun F2 H2 s2 e2 => q' F2 H2 (s1.trans s2) e2
    | err x cp2 => exact fun F2 H2 s2 e2 => hz _ _ (q' F2 H2 (s1.trans s2) e2)
    | bad => exact q'
  | err x cp1 => exact q
  | bad => exact q
theorem q_callC {k i : Nat} {x y : Str} {ps : List Str} {M : Mean} {p p2 pos : Pos} {es : List Expr} {f : Evs} (G : FnV X.prog X.w X.kk X.mg X.base k x ps true M) (hr : Room k X.A) (zp : ZP X z) (ha : QA X z O es f) (hl : es.length + 1 = ps.length := by rfl)
    (hci : z.ci = some i := by rfl) (hN : X.N[i]? = some y := by rfl) (hv : Vis X.env.scope y := by first | exact Or.inl rfl | exact Or.inr (Or.inl rfl) | exact Or.inr (Or.inr rfl)) (hd : (y == ("__debug__" : Str)) = false := by decide) (hcd : (y == ("__classdict__" : Str)) = false := by decide)
    (hg : Gl X x := by rfl) (hdb : (x == ("__debug__" : Str)) = false := by decide) (he : starEach (.Name y p2 :: es) X.env = (false, eval (.Name y p2) X.env) :: starEach es X.env := by rfl) (hpl : (backTo pos (starEach es X.env)).any (·.1) = false := by rfl) :
    QE X z O (.Call (.Name x p) (.Name y p2 :: es) [] pos) (eCall M f) := by
  obtain ⟨fa, fd, G, hm, hk, hb⟩ := G
  obtain ⟨E, hx, hz⟩ := zp
  refine ⟨PE.to (pe_call G hr hg hm hk hb .nil hx (pa_cons (pe_var hN hv hd hcd) ha.pa he) hdb he hpl) ?_⟩
  rintro σ H Q ⟨c, W, A, env, cp, F, p, q⟩
  refine ⟨.ref c, (p.cs i hci).1, c, W, A, env, cp, F, p, ?_⟩
  have hn := ha.len env cp
  unfold eCall at q
  generalize f env cp = r at q hn
  cases r with
  | ok ds cp1 =>
    intro F1 H1 s1 e1 vs rs
    have st := p.sit.step s1 e1
    show spM X.kk X.mg true ps.length M ((V.ref c :: vs) ++ []) H1 Q E
    rw [List.append_nil]
    refine ⟨by rw [List.length_cons, rs.length, hn ds cp1 rfl]; exact hl, c, W, F1, cp1, ds, vs, rfl, st, e1, rs, ?_⟩
    have q' : Aft z.E c W F H (M ds cp1) fun d _ F' H' => ∀ v, Rp X.kk F' v d → Q v H' := q
    generalize M ds cp1 = r at q'
    cases r with
    | ok d cp2 => exact fun F2 H2 s2 e2 => q' F2 H2 (s1.trans s2) e2
    | err x cp2 => exact fun F2 H2 s2 e2 => hz _ _ (q' F2 H2 (s1.trans s2) e2)
    | bad => exact q'
  | err x cp1 => exact q
  | bad => exact q
/-! the cup's own cells -/
def eCup (k : Bool) : Ev := fun _ cp => .ok (.int (if k then cp.2 else cp.1)) cp
theorem q_cup {i j : Nat} {n : Int} {y : Str} {p p2 pos : Pos} (k : Bool) (hnk : n = (if k then 1 else 0) := by rfl) (hci : z.ci = some i := by rfl) (hN : X.N[i]? = some y := by rfl)
    (hv : Vis X.env.scope y := by first | exact Or.inl rfl | exact Or.inr (Or.inl rfl) | exact Or.inr (Or.inr rfl)) (hd : (y == ("__debug__" : Str)) = false := by decide) (hcd : (y == ("__classdict__" : Str)) = false := by decide) :
    QE X z O (.Subscript (.Name y p) (.Constant (.int n) j p2) pos) (eCup k) := by
  refine ⟨PE.to (pe_ix ix_list (pe_var hN hv hd hcd) pe_int (fun _ _ => rfl)) ?_⟩
  rintro σ H Q ⟨c, W, A, env, cp, F, p, q⟩
  refine ⟨.ref c, (p.cs i hci).1, c, _, n, .int (if k then cp.2 else cp.1), rfl, rfl, SqL.of p.cup, ?_, q F H p.refl p.cup _ (.int _)⟩
  subst hnk
  cases k <;> rfl
end
end MP
namespace MP
open PySem PySem.Spec PyProof.Rows L2

/-! ## targets -/
abbrev Tg := D → Env → Option Env
def gNm (i : Nat) : Tg := fun d env => some (env.set i (some d))
abbrev Tgs := List D → Env → Option Env
def gsNil : Tgs := fun ds env => match ds with
  | [] => some env
  | _ => none
def gsCons (g : Tg) (h : Tgs) : Tgs := fun ds env => match ds with
  | d :: r => (g d env).bind (h r)
  | [] => none
def gTp (h : Tgs) : Tg := fun d env => match d with
  | .tuple ds => h ds env
  | _ => none
/-- the slots that change -/
def Off (gs : List Nat) (σ σ' : L2.St) : Prop := σ'.length = σ.length ∧ ∀ i, i ∉ gs → σ'[i]? = σ[i]?
def tTg (K : MpK) (z : Z) (O : List Nat) (gs : List Nat) (g : Tg) : TG := fun v σ H Q => ∃ c W A env cp F d env', Pre K z.ci O c W A env cp F σ H ∧ Rp K F v d ∧ g d env = some env' ∧ ∀ σ', Pre K z.ci O c W A env' cp F σ' H → Off gs σ σ' → Q σ' H
def tTgs (K : MpK) (z : Z) (O : List Nat) (gs : List Nat) (g : Tgs) : TGs := fun vs σ H Q => ∃ c W A env cp F ds env', Pre K z.ci O c W A env cp F σ H ∧ RpA K F vs ds ∧ g ds env = some env' ∧ ∀ σ', Pre K z.ci O c W A env' cp F σ' H → Off gs σ σ' → Q σ' H
structure QG (X : Cx) (z : Z) (O : List Nat) (tg : Expr) (gs : List Nat) (g : Tg) : Prop where
  pg : PG X tg (tTg X.kk z O gs g)
structure QGs (X : Cx) (z : Z) (O : List Nat) (tg : List Expr) (gs : List Nat) (g : Tgs) : Prop where
  pg : PGs X tg (tTgs X.kk z O gs g)
theorem PG.to {X : Cx} {tg : Expr} {t t' : TG} (h : PG X tg t) (k : ∀ v σ H Q, t' v σ H Q → t v σ H Q) : PG X tg t' := ⟨fun pins s σ H v u Q I r q => h.run pins s σ H v u Q I r (k _ _ _ _ q)⟩
theorem PGs.to {X : Cx} {tg : List Expr} {t t' : TGs} (h : PGs X tg t) (k : ∀ v σ H Q, t' v σ H Q → t v σ H Q) : PGs X tg t' := ⟨fun pins s σ H v u Q I r q => h.run pins s σ H v u Q I r (k _ _ _ _ q)⟩
section
variable {K : MpK} {ci : Option Nat} {O : List Nat} {c : Addr} {W : Addr → Prop} {A : Nat → Option Addr} {env : Env} {cp cp' : Cup} {F F' : Hp} {σ : L2.St} {H H' : Hp}
theorem Pre.set (p : Pre K ci O c W A env cp F σ H) {i : Nat} {v : V} {d : D} (hO : i ∉ O) (hc : ci ≠ some i) (r : Rp K F v d) : Pre K ci O c W A (env.set i (some d)) cp F (σ.set i (some v)) H where
  sub := p.sub
  cup := p.cup
  wc := p.wc
  wh := p.wh
  wf := p.wf
  sl := fun j e h1 h2 => by
    by_cases hj : i = j
    · subst hj
      have hl : i < env.length := by
        have := List.getElem?_eq_some_iff.mp h1
        obtain ⟨h, _⟩ := this
        simpa using h
      rw [List.getElem?_set_self hl] at h1
      cases h1
      exact ⟨v, List.getElem?_set_self (by rw [← p.ln]; exact hl), r⟩
    · rw [List.getElem?_set_ne hj] at h1 ⊢
      exact p.sl j e h1 h2
  ow := fun j e a h1 h2 h3 => by
    have hj : i ≠ j := fun z => hO (z ▸ h2)
    rw [List.getElem?_set_ne hj] at h1 ⊢
    exact p.ow j e a h1 h2 h3
  bx := fun j e h1 h2 h3 => by
    have hj : i ≠ j := fun z => hO (z ▸ h2)
    rw [List.getElem?_set_ne hj] at h1
    exact p.bx j e h1 h2 h3
  dj := p.dj
  aw := p.aw
  cs := fun j hj => by
    obtain ⟨h1, h2, h3⟩ := p.cs j hj
    have hi : i ≠ j := fun z => hc (z ▸ hj)
    refine ⟨by rw [List.getElem?_set_ne hi]; exact h1, h2, fun e q => ?_⟩
    rw [List.getElem?_set_ne hi] at q
    exact h3 e q
  ln := by rw [List.length_set, List.length_set]; exact p.ln
end
section
variable {X : Cx} {z : Z} {O : List Nat}
theorem qg_nm (i : Nat) {x : Str} {pos : Pos} (hN : X.N.Nodup) (hO : i ∉ O := by decide) (hc : z.ci ≠ some i := by intro h; cases h) (hi : X.N[i]? = some x := by rfl) (hx : Loc X.env.scope x := by first | exact Or.inl rfl | exact Or.inr rfl) (hf : X.fn x = true ∨ X.env.scope.names.lookup x = some .local := by first | exact .inl rfl | exact .inr rfl) :
    QG X z O (.Name x pos) [i] (gNm i) := ⟨PG.to (pg_name hN hi hx hf) fun v σ H Q ⟨c, W, A, env, cp, F, d, env', p, r, e, q⟩ => by
  cases e
  exact q _ (p.set hO hc r) ⟨by rw [List.length_set], fun j hj => List.getElem?_set_ne fun z => hj (by simp [z])⟩⟩
theorem qgs_nil : QGs X z O [] [] gsNil := ⟨PGs.to pgs_nil fun vs σ H Q ⟨c, W, A, env, cp, F, ds, env', p, r, e, q⟩ => by
  cases ds with
  | nil => cases r; cases e; exact ⟨rfl, q σ p ⟨rfl, fun _ _ => rfl⟩⟩
  | cons _ _ => cases e⟩
theorem qgs_cons {e : Expr} {es : List Expr} {gs hs : List Nat} {g : Tg} {h : Tgs} (h1 : QG X z O e gs g) (h2 : QGs X z O es hs h) (hh : (assignEach (e :: es) X.env).map (·.2) = assign e X.env :: (assignEach es X.env).map (·.2) := by rfl) :
    QGs X z O (e :: es) (gs ++ hs) (gsCons g h) := ⟨PGs.to (pgs_cons h1.pg h2.pg hh) fun vs σ H Q ⟨c, W, A, env, cp, F, ds, env', p, r, e, q⟩ => by
  cases ds with
  | nil => cases e
  | cons d ds =>
    cases r with
    | cons r1 r2 =>
      have e : (g d env).bind (h ds) = some env' := e
      cases e1 : g d env with
      | none => rw [e1] at e; cases e
      | some env1 =>
        rw [e1] at e
        refine ⟨_, _, rfl, c, W, A, env, cp, F, d, env1, p, r1, e1, fun σ1 p1 o1 => ⟨c, W, A, env1, cp, F, ds, env', p1, r2, e, fun σ2 p2 o2 => q σ2 p2 ⟨o2.1.trans o1.1, fun i hi => ?_⟩⟩⟩
        rw [List.mem_append, not_or] at hi
        exact (o2.2 i hi.2).trans (o1.2 i hi.1)⟩
theorem qg_tup {es : List Expr} {k : Nat} {pos : Pos} {gs : List Nat} {h : Tgs} (hc : X.calm = true) (hh : QGs X z O es gs h) (hl : ∀ ds env env', h ds env = some env' → ds.length = es.length)
    (hn : (assignEach es X.env).length = es.length := by rfl) (hst : (assignEach es X.env).findIdx? (·.1) = none := by rfl) : QG X z O (.Tuple es k pos) gs (gTp h) := ⟨PG.to (pg_tup hc hh.pg hn hst) fun v σ H Q ⟨c, W, A, env, cp, F, d, env', p, r, e, q⟩ => by
  cases d with
  | tuple ds =>
    obtain ⟨a, vs, rfl, h1, l, r1⟩ := r.tupI
    exact ⟨a, vs, rfl, SqT_same p.sub h1, by rw [r1.length]; exact hl ds env env' e, c, W, A, env, cp, F, ds, env', p, r1, e, q⟩
  | _ => cases e⟩
theorem gsNil_len : ∀ (ds : List D) (env env' : Env), gsNil ds env = some env' → ds.length = 0
  | [], _, _, _ => rfl
  | _ :: _, _, _, e => by cases e
theorem gsCons_len {g : Tg} {h : Tgs} {n : Nat} (k : ∀ (ds : List D) (env env' : Env), h ds env = some env' → ds.length = n) : ∀ (ds : List D) (env env' : Env), gsCons g h ds env = some env' → ds.length = n + 1
  | [], _, _, e => by cases e
  | d :: ds, env, env', e => by
    have e : (g d env).bind (h ds) = some env' := e
    cases e1 : g d env with
    | none => rw [e1] at e; cases e
    | some env1 =>
      rw [e1] at e
      rw [List.length_cons, k ds env1 env' e]
theorem qg_tup1 {e : Expr} {k : Nat} {pos : Pos} {gs : List Nat} {g : Tg} (hc : X.calm = true) (hh : QGs X z O [e] gs (gsCons g gsNil)) (hn : (assignEach [e] X.env).length = 1 := by rfl) (hst : (assignEach [e] X.env).findIdx? (·.1) = none := by rfl) : QG X z O (.Tuple [e] k pos) gs (gTp (gsCons g gsNil)) := qg_tup hc hh (gsCons_len gsNil_len) hn hst
theorem qg_tup2 {e e2 : Expr} {k : Nat} {pos : Pos} {gs : List Nat} {g g2 : Tg} (hc : X.calm = true) (hh : QGs X z O [e, e2] gs (gsCons g (gsCons g2 gsNil))) (hn : (assignEach [e, e2] X.env).length = 2 := by rfl) (hst : (assignEach [e, e2] X.env).findIdx? (·.1) = none := by rfl) : QG X z O (.Tuple [e, e2] k pos) gs (gTp (gsCons g (gsCons g2 gsNil))) := qg_tup hc hh (gsCons_len (gsCons_len gsNil_len)) hn hst
theorem qg_tup3 {e e2 e3 : Expr} {k : Nat} {pos : Pos} {gs : List Nat} {g g2 g3 : Tg} (hc : X.calm = true) (hh : QGs X z O [e, e2, e3] gs (gsCons g (gsCons g2 (gsCons g3 gsNil)))) (hn : (assignEach [e, e2, e3] X.env).length = 3 := by rfl) (hst : (assignEach [e, e2, e3] X.env).findIdx? (·.1) = none := by rfl) : QG X z O (.Tuple [e, e2, e3] k pos) gs (gTp (gsCons g (gsCons g2 (gsCons g3 gsNil)))) := qg_tup hc hh (gsCons_len (gsCons_len (gsCons_len gsNil_len))) hn hst
theorem qg_tup4 {e e2 e3 e4 : Expr} {k : Nat} {pos : Pos} {gs : List Nat} {g g2 g3 g4 : Tg} (hc : X.calm = true) (hh : QGs X z O [e, e2, e3, e4] gs (gsCons g (gsCons g2 (gsCons g3 (gsCons g4 gsNil))))) (hn : (assignEach [e, e2, e3, e4] X.env).length = 4 := by rfl) (hst : (assignEach [e, e2, e3, e4] X.env).findIdx? (·.1) = none := by rfl) : QG X z O (.Tuple [e, e2, e3, e4] k pos) gs (gTp (gsCons g (gsCons g2 (gsCons g3 (gsCons g4 gsNil))))) := qg_tup hc hh (gsCons_len (gsCons_len (gsCons_len (gsCons_len gsNil_len)))) hn hst
end

/-! ## what is walked -/
structure SrcOk (K : MpK) (c : Addr) (W : Addr → Prop) (F H : Hp) (J : It) (ds : List D) : Prop where
  len : ds.length ≤ sizeLine
  go : ∀ (i : Nat) (F2 H2 : Hp), Stp c W F H F2 H2 → i < ds.length → J.go i H2
  stop : ∀ (F2 H2 : Hp), Stp c W F H F2 H2 → J.stop ds.length H2
  yld : ∀ (W2 : Addr → Prop) (i : Nat) (F2 H2 H3 : Hp) (v : V) (d : D), Stp c W F H F2 H2 → Sit c W2 F2 H2 → ds[i]? = some d → J.yld i H2 v H3 → ∃ F3, Stp c W2 F2 H2 F3 H3 ∧ H3 c = H2 c ∧ Rp K F3 v d
/-- .. by what never changes alone -/
structure SrcF (K : MpK) (c : Addr) (F : Hp) (J : It) (ds : List D) : Prop where
  len : ds.length ≤ sizeLine
  go : ∀ (i : Nat) (F2 H2 : Hp), Same F F2 → Same F2 H2 → i < ds.length → J.go i H2
  stop : ∀ (F2 H2 : Hp), Same F F2 → Same F2 H2 → J.stop ds.length H2
  yld : ∀ (W2 : Addr → Prop) (i : Nat) (F2 H2 H3 : Hp) (v : V) (d : D), Same F F2 → Sit c W2 F2 H2 → ds[i]? = some d → J.yld i H2 v H3 → ∃ F3, Stp c W2 F2 H2 F3 H3 ∧ H3 c = H2 c ∧ Rp K F3 v d
theorem SrcF.ok {K : MpK} {c : Addr} {W : Addr → Prop} {F H : Hp} {J : It} {ds : List D} (s : SrcF K c F J ds) : SrcOk K c W F H J ds :=
  ⟨s.len, fun i F2 H2 t => s.go i F2 H2 t.f t.sub, fun F2 H2 t => s.stop F2 H2 t.f t.sub, fun W2 i F2 H2 H3 v d t => s.yld W2 i F2 H2 H3 v d t.f⟩
def tSrc (K : MpK) (z : Z) (O : List Nat) (f : Evs) : TI := fun σ H R => ∃ c W A env cp F, Pre K z.ci O c W A env cp F σ H ∧ Aft z.E c W F H (f env cp) fun ds _ F' H' => ∀ J, SrcOk K c W F' H' J ds → R J H'
structure QI (X : Cx) (z : Z) (O : List Nat) (tg e : Expr) (f : Evs) : Prop where
  pi : PI X tg e (tSrc X.kk z O f)
def tSrcF (K : MpK) (z : Z) (O : List Nat) (f : Evs) : TI := fun σ H R => ∃ c W A env cp F, Pre K z.ci O c W A env cp F σ H ∧ Aft z.E c W F H (f env cp) fun ds _ F' H' => ∀ J, SrcF K c F' J ds → R J H'
structure QJ (X : Cx) (z : Z) (O : List Nat) (tg e : Expr) (f : Evs) : Prop where
  pi : PI X tg e (tSrcF X.kk z O f)
theorem QJ.i {X : Cx} {z : Z} {O : List Nat} {tg e : Expr} {f : Evs} (h : QJ X z O tg e f) : QI X z O tg e f := ⟨PI.to h.pi fun σ H R ⟨c, W, A, env, cp, F, p, q⟩ => ⟨c, W, A, env, cp, F, p, q.imp fun _ _ _ _ _ _ k J s => k J s.ok⟩⟩
theorem PI.or {X : Cx} {tg e : Expr} {t t' : TI} (h : PI X tg e t) (h' : PI X tg e t') : PI X tg e (fun σ H R => t σ H R ∨ t' σ H R) := ⟨fun pins s σ H R I q => q.elim (h.run pins s σ H R I) (h'.run pins s σ H R I)⟩
def chars (x : Str) : List D := x.cps.toList.map fun c => .str ⟨#[c]⟩
def sItems : D → Option (List D)
  | .list ds => some ds
  | .tuple ds => some ds
  | .str x => some (chars x)
  | _ => none
def eIt (f : Ev) : Evs := fun env cp => (f env cp).bind fun d cp1 => match sItems d with
  | some ds => .ok ds cp1
  | none => .bad
section
variable {X : Cx} {z : Z} {O : List Nat}
theorem src_list {K : MpK} {c : Addr} {W : Addr → Prop} {F H : Hp} {a : Addr} {vs : List V} {ds : List D} (h : H a = some (.lst vs)) (hc : a ≠ c) (l : vs.length ≤ sizeLine) (r : RpA K F vs ds) : SrcOk K c W F H (Itl K a) ds where
  len := by rw [← r.length]; exact l
  go := fun i F2 H2 s hi => by
    have h2 := s.h a _ hc h
    exact ⟨vs, vs[i]'(by rw [r.length]; exact hi), SqL.of h2, by simp [r.length, hi]⟩
  stop := fun F2 H2 s => ⟨vs, SqL.of (s.h a _ hc h), Nat.le_of_eq r.length⟩
  yld := fun W2 i F2 H2 H3 v d s st hd y => by
    obtain ⟨rfl, y⟩ := y
    have e := y vs (SqL.of (s.h a _ hc h))
    obtain ⟨v', e', r'⟩ := r.get hd
    rw [e] at e'
    cases e'
    exact ⟨F2, st.refl, rfl, r'.mono s.f⟩
theorem srcF_list {K : MpK} {c : Addr} {F : Hp} {a : Addr} {vs : List V} {ds : List D} (h : F a = some (.lst vs)) (l : vs.length ≤ sizeLine) (r : RpA K F vs ds) : SrcF K c F (Itl K a) ds where
  len := by rw [← r.length]; exact l
  go := fun i F2 H2 s t hi => ⟨vs, vs[i]'(by rw [r.length]; exact hi), SqL.of (t _ _ (s _ _ h)), by simp [r.length, hi]⟩
  stop := fun F2 H2 s t => ⟨vs, SqL.of (t _ _ (s _ _ h)), Nat.le_of_eq r.length⟩
  yld := fun W2 i F2 H2 H3 v d s st hd y => by
    obtain ⟨rfl, y⟩ := y
    have e := y vs (SqL.of (st.sub _ _ (s _ _ h)))
    obtain ⟨v', e', r'⟩ := r.get hd
    rw [e] at e'
    cases e'
    exact ⟨F2, st.refl, rfl, r'.mono s⟩
theorem src_tup {K : MpK} {c : Addr} {F : Hp} {a : Addr} {vs : List V} {ds : List D} (h : SqT K F a vs) (l : vs.length ≤ sizeLine) (r : RpA K F vs ds) : SrcF K c F (Itt K a) ds where
  len := by rw [← r.length]; exact l
  go := fun i F2 H2 s t hi => ⟨vs, vs[i]'(by rw [r.length]; exact hi), SqT_same (s.trans t) h, by simp [r.length, hi]⟩
  stop := fun F2 H2 s t => ⟨vs, SqT_same (s.trans t) h, Nat.le_of_eq r.length⟩
  yld := fun W2 i F2 H2 H3 v d s st hd y => by
    obtain ⟨rfl, y⟩ := y
    have e := y vs (SqT_same (s.trans st.sub) h)
    obtain ⟨v', e', r'⟩ := r.get hd
    rw [e] at e'
    cases e'
    exact ⟨F2, st.refl, rfl, r'.mono s⟩
theorem src_str {K : MpK} {c : Addr} {F : Hp} {x : Str} (hx : sOk x) : SrcF K c F (Its x) (chars x) where
  len := by unfold chars; rw [List.length_map, Array.length_toList]; exact hx.2
  go := fun i F2 H2 s t hi => by
    have : i < (chars x).length := hi
    unfold chars at this
    rw [List.length_map, Array.length_toList] at this
    exact this
  stop := fun F2 H2 s t => by
    show x.cps.size ≤ (chars x).length
    unfold chars
    rw [List.length_map, Array.length_toList]
    exact Nat.le_refl _
  yld := fun W2 i F2 H2 H3 v d s st hd y => by
    obtain ⟨rfl, k, hk, rfl⟩ := y
    unfold chars at hd
    rw [List.getElem?_map, Array.getElem?_toList, hk] at hd
    cases hd
    refine ⟨F2, st.refl, rfl, .str _ ⟨?_, one_le⟩⟩
    have hm : k ∈ x.cps := Array.mem_of_getElem? hk
    have := (Array.all_eq_true'.mp (show x.cps.all (· < 0x110000) = true from hx.1)) k hm
    show (#[k]).all (· < 0x110000) = true
    simpa using this
theorem own_ne {K : MpK} {c : Addr} {W : Addr → Prop} {F H : Hp} {v : V} {ds : List D} (st : Sit c W F H) (r : Pk K c F H v (.list ds)) : ∃ a vs, v = .ref a ∧ H a = some (.lst vs) ∧ a ≠ c ∧ vs.length ≤ sizeLine ∧ RpA K F vs ds := by
  rcases r with r | ⟨a, e, n, vs, h1, hl, h2⟩
  · cases r with
    | lst h l r =>
      refine ⟨_, _, rfl, st.sub _ _ h, fun z => ?_, l, r⟩
      subst z
      rw [st.wf _ st.wc] at h
      cases h
  · exact ⟨a, vs, e, h1, n, hl, h2⟩
theorem qi_e {tg e : Expr} {f : Ev} (h : QP X z O e f) : QI X z O tg e (eIt f) := ⟨PI.to (PI.or (pi_list h.pe) (PI.or (pi_tup h.pe) (pi_str h.pe))) fun σ H R ⟨c, W, A, env, cp, F, p, q⟩ => by
  have key : ∀ d cp1, f env cp = .ok d cp1 → ∃ ds, sItems d = some ds ∧ Aft z.E c W F H (.ok d cp1) fun _ _ F' H' => ∀ J, SrcOk X.kk c W F' H' J ds → R J H' := fun d cp1 e => by
    unfold eIt at q
    rw [e, Res.bind_ok] at q
    cases e2 : sItems d with
    | none => simp only [e2] at q; exact q.elim
    | some ds =>
      simp only [e2] at q
      exact ⟨ds, rfl, q⟩
  cases e1 : f env cp with
  | bad => unfold eIt at q; rw [e1] at q; exact q.elim
  | err x cp1 =>
    unfold eIt at q
    rw [e1] at q
    exact .inl ⟨c, W, A, env, cp, F, p, by rw [e1]; exact q⟩
  | ok d cp1 =>
    obtain ⟨ds, e2, q⟩ := key d cp1 e1
    cases d with
    | list ds' =>
      cases e2
      refine .inl ⟨c, W, A, env, cp, F, p, ?_⟩
      rw [e1]
      intro F1 H1 s1 c1 v r
      obtain ⟨a, vs, rfl, h1, h2, l, r1⟩ := own_ne (p.sit.step s1 c1) r
      exact ⟨a, rfl, ⟨vs, SqL.of h1⟩, q F1 H1 s1 c1 _ (src_list h1 h2 l r1)⟩
    | tuple ds' =>
      cases e2
      refine .inr (.inl ⟨c, W, A, env, cp, F, p, ?_⟩)
      rw [e1]
      intro F1 H1 s1 c1 v r
      obtain ⟨a, vs, rfl, h1, l, r1⟩ := (r.flat rfl).tupI
      exact ⟨a, rfl, ⟨vs, SqT_same s1.sub h1⟩, q F1 H1 s1 c1 _ (src_tup h1 l r1).ok⟩
    | str x =>
      cases e2
      refine .inr (.inr ⟨c, W, A, env, cp, F, p, ?_⟩)
      rw [e1]
      intro F1 H1 s1 c1 v r
      have r := r.flat rfl
      cases r with
      | str _ hx => exact ⟨x, rfl, q F1 H1 s1 c1 _ (src_str hx).ok⟩
    | _ => cases e2⟩
theorem qj_e {tg e : Expr} {f : Ev} (h : QE X z O e f) : QJ X z O tg e (eIt f) := ⟨PI.to (PI.or (pi_list h.pe) (PI.or (pi_tup h.pe) (pi_str h.pe))) fun σ H R ⟨c, W, A, env, cp, F, p, q⟩ => by
  have key : ∀ d cp1, f env cp = .ok d cp1 → ∃ ds, sItems d = some ds ∧ Aft z.E c W F H (.ok d cp1) fun _ _ F' H' => ∀ J, SrcF X.kk c F' J ds → R J H' := fun d cp1 e => by
    unfold eIt at q
    rw [e, Res.bind_ok] at q
    cases e2 : sItems d with
    | none => simp only [e2] at q; exact q.elim
    | some ds =>
      simp only [e2] at q
      exact ⟨ds, rfl, q⟩
  cases e1 : f env cp with
  | bad => unfold eIt at q; rw [e1] at q; exact q.elim
  | err x cp1 =>
    unfold eIt at q
    rw [e1] at q
    exact .inl ⟨c, W, A, env, cp, F, p, by rw [e1]; exact q⟩
  | ok d cp1 =>
    obtain ⟨ds, e2, q⟩ := key d cp1 e1
    cases d with
    | list ds' =>
      cases e2
      refine .inl ⟨c, W, A, env, cp, F, p, ?_⟩
      rw [e1]
      intro F1 H1 s1 c1 v r
      cases r with
      | lst h1 l r1 => exact ⟨_, rfl, ⟨_, SqL.of (s1.sub _ _ h1)⟩, q F1 H1 s1 c1 _ (srcF_list h1 l r1)⟩
    | tuple ds' =>
      cases e2
      refine .inr (.inl ⟨c, W, A, env, cp, F, p, ?_⟩)
      rw [e1]
      intro F1 H1 s1 c1 v r
      obtain ⟨a, vs, rfl, h1, l, r1⟩ := r.tupI
      exact ⟨a, rfl, ⟨vs, SqT_same s1.sub h1⟩, q F1 H1 s1 c1 _ (src_tup h1 l r1)⟩
    | str x =>
      cases e2
      refine .inr (.inr ⟨c, W, A, env, cp, F, p, ?_⟩)
      rw [e1]
      intro F1 H1 s1 c1 v r
      cases r with
      | str _ hx => exact ⟨x, rfl, q F1 H1 s1 c1 _ (src_str hx)⟩
    | _ => cases e2⟩
/-! ranges -/
def rangeL (lo : Int) (n : Nat) : List D := (List.range n).map fun i : Nat => .int (lo + (i : Int))
def okR (i : Int) : Bool := decide (-4611686018427387904 ≤ i) && decide (i < 4611686018427387904)
def eRg1 (a : Ev) : Evs := fun env cp => (a env cp).bind fun d cp1 => match d with
  | .int j => if okR j && okLen j.toNat then .ok (rangeL 0 j.toNat) cp1 else .bad
  | _ => .bad
def eRg2 (a b : Ev) : Evs := fun env cp => (a env cp).bind fun d cp1 => (b env cp1).bind fun e cp2 => match d, e with
  | .int i, .int j => if okR i && okR j && okLen (j - i).toNat then .ok (rangeL i (j - i).toNat) cp2 else .bad
  | _, _ => .bad
theorem src_range {K : MpK} {c : Addr} {F : Hp} {lo : Int} {n : Nat} (hn : n ≤ sizeLine) : SrcF K c F (Itr lo n) (rangeL lo n) where
  len := by unfold rangeL; rw [List.length_map, List.length_range]; exact hn
  go := fun i F2 H2 s t hi => by
    unfold rangeL at hi
    rw [List.length_map, List.length_range] at hi
    exact hi
  stop := fun F2 H2 s t => by
    show n ≤ (rangeL lo n).length
    unfold rangeL
    rw [List.length_map, List.length_range]
    exact Nat.le_refl _
  yld := fun W2 i F2 H2 H3 v d s st hd y => by
    obtain ⟨rfl, rfl⟩ := y
    unfold rangeL at hd
    rw [List.getElem?_map] at hd
    cases e : (List.range n)[i]? with
    | none => rw [e] at hd; cases hd
    | some k =>
      rw [e] at hd
      cases hd
      have : k = i := by
        obtain ⟨h1, h2⟩ := List.getElem?_eq_some_iff.mp e
        rw [List.getElem_range] at h2
        exact h2.symm
      subst this
      exact ⟨F2, st.refl, rfl, .int _⟩
theorem qj_rg1 {tg a : Expr} {p pos : Pos} {f : Ev} (ha : QE X z O a f) (hm : X.mg "range" = none) (hg : Gl X "range" := by rfl) (hs : starEach [a] X.env = [(false, eval a X.env)] := by rfl) : QJ X z O tg (.Call (.Name "range" p) [a] [] pos) (eRg1 f) :=
  ⟨PI.to (pi_range1 hg hm (pa_cons ha.pe pa_nil (by rw [hs]; rfl)) hs) fun σ H R ⟨c, W, A, env, cp, F, p, q⟩ => ⟨c, W, A, env, cp, F, p, (Aft.bind q).imp fun d cp1 F1 H1 s1 e1 q v r => by
    cases d with
    | int j =>
      cases r
      have q : Aft z.E c W F1 H1 (if okR j && okLen j.toNat then .ok (rangeL 0 j.toNat) cp1 else .bad) fun ds _ F' H' => ∀ J, SrcF X.kk c F' J ds → R J H' := q
      split at q
      · rename_i h
        obtain ⟨h, hl⟩ := Bool.and_eq_true_iff.mp h
        simp only [okR, Bool.and_eq_true, decide_eq_true_eq] at h
        exact ⟨j, rfl, by omega, by omega, q F1 H1 s1.sitStep e1 _ (src_range (okLen_le hl))⟩
      · exact q.elim
    | _ => exact q.elim⟩⟩
theorem qj_rg2 {tg a b : Expr} {p pos : Pos} {f g : Ev} (ha : QE X z O a f) (hb : QE X z O b g) (hm : X.mg "range" = none) (hg : Gl X "range" := by rfl) (hs : starEach [a, b] X.env = [(false, eval a X.env), (false, eval b X.env)] := by rfl) (hs2 : starEach [b] X.env = [(false, eval b X.env)] := by rfl) : QJ X z O tg (.Call (.Name "range" p) [a, b] [] pos) (eRg2 f g) :=
  ⟨PI.to (pi_range2 hg hm (pa_cons ha.pe (pa_cons hb.pe pa_nil (by rw [hs2]; rfl)) (by rw [hs, hs2])) hs hs2) fun σ H R ⟨c, W, A, env, cp, F, p, q⟩ => ⟨c, W, A, env, cp, F, p, (Aft.bind q).imp fun d cp1 F1 H1 s1 e1 q v r => ⟨c, W, A, env, cp1, F1, p.step s1 e1, (Aft.bind q).imp fun e cp2 F2 H2 s2 e2 q w r2 => by
    cases d with
    | int i =>
      cases e with
      | int j =>
        cases r; cases r2
        have q : Aft z.E c W F2 H2 (if okR i && okR j && okLen (j - i).toNat then .ok (rangeL i (j - i).toNat) cp2 else .bad) fun ds _ F' H' => ∀ J, SrcF X.kk c F' J ds → R J H' := q
        split at q
        · rename_i h
          obtain ⟨h, hl⟩ := Bool.and_eq_true_iff.mp h
          simp only [okR, Bool.and_eq_true, decide_eq_true_eq] at h
          exact ⟨i, j, rfl, ⟨by omega, by omega, by omega, by omega⟩, q F2 H2 s2.sitStep e2 _ (src_range (okLen_le hl))⟩
        · exact q.elim
      | _ => exact q.elim
    | _ => exact q.elim⟩⟩⟩
end

theorem Res.bind_assoc {α β γ : Type} (r : Res α) (f : α → Cup → Res β) (g : β → Cup → Res γ) : (r.bind f).bind g = r.bind fun a c => (f a c).bind g := by cases r <;> rfl
/-! ## comprehensions -/
def wipeE (env : Env) : List Nat → Env
  | [] => env
  | v :: vs => (wipeE env vs).set v none
/-- inside a block no error leaves -/
def nE {α : Type} (r : Res α) : Res α := match r with
  | .ok a c => .ok a c
  | _ => .bad
def lcGo (g : Tg) (t e : Ev) (env : Env) : List D → Cup → Res (List D)
  | [], cp => .ok [] cp
  | d :: ds, cp => match g d env with
    | none => .bad
    | some env' => (nE (t env' cp)).bind fun b cp1 => match b with
      | .bool true => (nE (e env' cp1)).bind fun y cp2 => (lcGo g t e env ds cp2).bind fun ys cp3 => .ok (y :: ys) cp3
      | .bool false => lcGo g t e env ds cp1
      | _ => .bad
def eLc (own : List Nat) (g : Tg) (src : Evs) (t e : Ev) : Ev := fun env cp => (src env cp).bind fun ds cp1 => (lcGo g t e (wipeE env own) ds cp1).bind fun out cp2 => .ok (.list out) cp2
theorem wipeE_some {env : Env} {i : Nat} {d : D} : ∀ {vs : List Nat}, (wipeE env vs)[i]? = some (some d) → env[i]? = some (some d) ∧ i ∉ vs
  | [], h => ⟨h, by simp⟩
  | v :: vs, h => by
    unfold wipeE at h
    by_cases hi : v = i
    · subst hi
      by_cases hv : v < (wipeE env vs).length
      · rw [List.getElem?_set_self hv] at h; cases h
      · rw [List.getElem?_eq_none (by simpa using hv)] at h; cases h
    · rw [List.getElem?_set_ne hi] at h
      obtain ⟨h1, h2⟩ := wipeE_some h
      exact ⟨h1, by simp only [List.mem_cons, not_or]; exact ⟨fun e => hi e.symm, h2⟩⟩
theorem wipeE_length (env : Env) : ∀ vs : List Nat, (wipeE env vs).length = env.length
  | [] => rfl
  | v :: vs => by unfold wipeE; rw [List.length_set, wipeE_length env vs]
theorem wipe_off {σ σ' : L2.St} : ∀ {vs : List Nat}, Off vs (wipe σ vs) σ' → wipe σ' vs = wipe σ vs := by
  intro vs h
  apply List.ext_getElem?
  intro i
  by_cases hi : i ∈ vs
  · have none_in : ∀ (τ : L2.St) (l : List Nat), i ∈ l → i < τ.length → (wipe τ l)[i]? = some none := by
      intro τ l
      induction l with
      | nil => intro hm; simp at hm
      | cons v l ih =>
        intro hm hl
        unfold wipe
        by_cases hv : v = i
        · subst hv
          exact List.getElem?_set_self (by rw [wipe_length]; exact hl)
        · rw [List.getElem?_set_ne hv]
          rcases List.mem_cons.mp hm with e | hm
          · exact absurd e.symm hv
          · exact ih hm hl
    by_cases hl : i < σ.length
    · rw [none_in σ' vs hi (by rw [h.1, wipe_length]; exact hl), none_in σ vs hi hl]
    · rw [List.getElem?_eq_none (by rw [wipe_length, h.1, wipe_length]; omega), List.getElem?_eq_none (by rw [wipe_length]; omega)]
  · rw [wipe_out hi, h.2 i hi]
section
variable {K : MpK} {ci : Option Nat} {O : List Nat} {c : Addr} {W : Addr → Prop} {A : Nat → Option Addr} {env : Env} {cp cp' : Cup} {F F' : Hp} {σ : L2.St} {H H' : Hp}
theorem Pre.wipe (p : Pre K ci O c W A env cp F σ H) (vs : List Nat) (hci : ∀ i, ci = some i → i ∉ vs) : Pre K ci (O.filter fun i => decide (i ∉ vs)) c W A (wipeE env vs) cp F (L2.wipe σ vs) H where
  sub := p.sub
  cup := p.cup
  wc := p.wc
  wh := p.wh
  wf := p.wf
  sl := fun i d h1 h2 => by
    obtain ⟨h3, h4⟩ := wipeE_some h1
    rw [wipe_out h4]
    refine p.sl i d h3 ?_
    rcases h2 with h2 | h2
    · exact .inl fun z => h2 (List.mem_filter.mpr ⟨z, by simpa using h4⟩)
    · exact .inr h2
  ow := fun i d a h1 h2 h3 => by
    obtain ⟨h4, h5⟩ := wipeE_some h1
    rw [wipe_out h5]
    exact p.ow i d a h4 (List.mem_filter.mp h2).1 h3
  bx := fun i d h1 h2 h3 => p.bx i d (wipeE_some h1).1 (List.mem_filter.mp h2).1 h3
  dj := fun i j a h1 h2 => p.dj i j a (List.mem_filter.mp h1).1 (List.mem_filter.mp h2).1
  aw := fun i a h1 => p.aw i a (List.mem_filter.mp h1).1
  cs := fun i hi => by
    obtain ⟨h1, h2, h3⟩ := p.cs i hi
    rw [wipe_out (hci i hi)]
    exact ⟨h1, fun z => h2 (List.mem_filter.mp z).1, fun d q => h3 d (wipeE_some q).1⟩
  ln := by rw [wipeE_length, wipe_length]; exact p.ln
/-- with more that must not be given away -/
theorem Pre.more (p : Pre K ci O c W A env cp F σ H) {W' : Addr → Prop} (h : ∀ b, W b → W' b) (s : Sit c W' F H) : Pre K ci O c W' A env cp F σ H :=
  ⟨p.sub, p.cup, s.wc, s.wh, s.wf, p.sl, fun i d a h1 h2 h3 => by
    obtain ⟨q1, q2, q3, q4⟩ := p.ow i d a h1 h2 h3
    exact ⟨q1, q2, h a q3, q4⟩, p.bx, p.dj, fun i a h1 h2 => h a (p.aw i a h1 h2), p.cs, p.ln⟩
end
abbrev Z.in (z : Z) : Z := ⟨fun _ _ => False, z.ci⟩
structure QTs (X : Cx) (z : Z) (O : List Nat) (ifs : List Expr) (f : Ev) : Prop where
  pt : PTs X ifs (tTv X.kk z O f)
section
variable {X : Cx} {z : Z} {O : List Nat}
theorem PTs.to {X : Cx} {e : List Expr} {t t' : TT} (h : PTs X e t) (k : ∀ σ H Q, t' σ H Q → t σ H Q) : PTs X e t' := ⟨fun pins s σ H Q I q => h.run pins s σ H Q I (k _ _ _ q)⟩
theorem qts_nil : QTs X z O [] (eC (.bool true)) := ⟨PTs.to pts_nil fun σ H Q ⟨c, W, A, env, cp, F, p, q⟩ => q F H p.refl p.cup true rfl⟩
theorem qts_one {e : Expr} {f : Ev} (h : QT X z O e f) : QTs X z O [e] f := ⟨pts_one h.pt⟩
theorem zp_blk {s : Shared} {H : Hp} {scope : Scope} {cenv : PySem.Env} {fp : List Addr} {ci : Option Nat} : ZP (X.blk s H scope cenv fp) ⟨fun _ _ => False, ci⟩ := ⟨E0, passL, fun _ _ h => h.elim⟩
theorem Aft.less {α : Type} {E : Str → Hp → Prop} {c : Addr} {W W' : Addr → Prop} {F H : Hp} {r : Res α} {Q : α → Cup → Hp → Hp → Prop} (h : Aft E c W F H r Q) (k : ∀ b, W b → W' b) : Aft E c W' F H r Q := by
  cases r with
  | ok a cp' => exact fun F' H' s e => h F' H' (s.weak k) e
  | err x cp' => exact fun F' H' s e => h F' H' (s.weak k) e
  | bad => exact h
theorem Aft.bindW {α β : Type} {E : Str → Hp → Prop} {c : Addr} {W : Addr → Prop} {F H F1 H1 : Hp} {r : Res α} {Q : α → Cup → Hp → Hp → Prop} (s : Stp c W F H F1 H1) (h : Aft E c W F H r Q) : Aft E c W F1 H1 r Q := by
  cases r with
  | ok a cp' => exact fun F' H' s2 e => h F' H' (s.trans s2) e
  | err x cp' => exact fun F' H' s2 e => h F' H' (s.trans s2) e
  | bad => exact h
/-- what is wanted stays anchored where it was -/
theorem aft_okA {α : Type} {E E' : Str → Hp → Prop} {c : Addr} {W W' : Addr → Prop} {F H F3 H3 : Hp} {r : Res α} {β : Type} {g : α → Cup → Res β} {Q : β → Cup → Hp → Hp → Prop} (h : Aft E c W F H ((nE r).bind g) Q) : Aft E' c W' F3 H3 r fun a cp' _ _ => Aft E c W F H (g a cp') Q := by
  cases r with
  | ok a cp' => exact fun F' H' s e => h
  | err x cp' => exact h.elim
  | bad => exact h
theorem Stp.atNew {c : Addr} {W : Addr → Prop} {F H F5 H5 : Hp} {q : Addr} {o : HO} (s : Stp c W F H F5 H5) (hq : H q = none) (fq : F5 q = none) : Stp c W F H F5 (upd H5 q o) :=
  ⟨s.f, fun b x e => by
    have nb : b ≠ q := fun z => by rw [z, fq] at e; cases e
    rw [upd_ne nb]
    exact s.sub _ _ e, fun b x nc e => by
    rw [upd_ne (ne_of_none e hq)]
    exact s.h b x nc e, s.w⟩
theorem lc_go {own : List Nat} {gs : List Nat} {g : Tg} {fs : Evs} {ft fe : Ev} (hgs : ∀ i ∈ gs, i ∈ own) (hci : ∀ i, z.ci = some i → i ∉ own) : ∀ σ H Q, tFr X.kk z O (eLc own g fs ft fe) σ H Q →
    tLc (tSrc X.kk z O fs) (tTg X.kk z.in (O.filter fun i => decide (i ∉ own)) gs g) (tTv X.kk z.in (O.filter fun i => decide (i ∉ own)) ft) (tEv X.kk z.in (O.filter fun i => decide (i ∉ own)) fe) own σ H Q := by
  rintro σ H0 Q ⟨c, W, A, env, cp, F0, p0, q⟩
  refine ⟨c, W, A, env, cp, F0, p0, (Aft.bind q).imp fun ds cp1 F H s0 e0 q J sj Dn hD => ?_⟩
  have p := p0.step s0 e0
  have q : Aft z.E c W F H ((lcGo g ft fe (wipeE env own) ds cp1).bind fun out cp2 => .ok (.list out) cp2) fun d _ F' H' => ∀ v, Fr X.kk H F' H' v d → Q v H' := q.imp fun _ _ _ _ _ _ k v r => k v (r.back s0 e0)
  have sN : Stp c W F H F (upd H Dn (.lst [])) := p.sit.new hD
  have cN : (upd H Dn (.lst [])) c = some (cupV cp1) := (p.sit.keepc hD).trans e0
  have fD : F Dn = none := p.sit.free hD
  have hDc : Dn ≠ c := fun e => by rw [e, e0] at hD; cases hD
  let W' : Addr → Prop := fun b => W b ∨ b = Dn
  have hW' : ∀ b, W b → W' b := fun b h => .inl h
  -- the invariant
  let Inv : Nat → Hp → Prop := fun i H2 => ∃ F2 cp2 vs done, Stp c W F H F2 H2 ∧ Sit c W' F2 H2 ∧ H2 c = some (cupV cp2) ∧ H2 Dn = some (.lst vs) ∧ RpA X.kk F2 vs done ∧ vs.length ≤ i ∧
    Aft z.E c W F H ((lcGo g ft fe (wipeE env own) (ds.drop i) cp2).bind fun out cp3 => .ok (.list (done ++ out)) cp3) fun d _ F' H' => ∀ v, Fr X.kk H F' H' v d → Q v H'
  refine ⟨fun i m H2 => m = ds.length - i ∧ i ≤ ds.length ∧ Inv i H2, ⟨ds.length, by simp, Nat.zero_le _, F, cp1, [], [], sN, ?_, cN, upd_same, .nil, Nat.le_refl _, q⟩, ?_⟩
  · refine ⟨sN.sub, .inl p.wc, fun b hb => ?_, fun b hb => ?_⟩
    · rcases hb with hb | rfl
      · exact (p.step sN cN).wh b hb
      · exact ⟨_, upd_same⟩
    · rcases hb with hb | rfl
      · exact p.wf b hb
      · exact fD
  · rintro i m H2 ⟨rfl, hi, F2, cp2, vs, done, s2, st2, c2, hv, rv, hl, q2⟩
    by_cases hlt : i < ds.length
    · refine .inr ⟨sj.go i F2 H2 s2 hlt, Inv (i + 1), fun H' h => ⟨ds.length - (i + 1), by omega, rfl, hlt, h⟩, fun x H3 hy => ?_⟩
      obtain ⟨d, hd⟩ : ∃ d, ds[i]? = some d := ⟨ds[i], by simp [hlt]⟩
      obtain ⟨F3, s3, k3, r3⟩ := sj.yld W' i F2 H2 H3 x d s2 st2 hd hy
      have hdrop : ds.drop i = d :: ds.drop (i + 1) := by
        rw [List.drop_eq_getElem_cons hlt]
        obtain ⟨h1, h2⟩ := List.getElem?_eq_some_iff.mp hd
        rw [h2]
      rw [hdrop] at q2
      have c3 : H3 c = some (cupV cp2) := k3.trans c2
      have st3 : Sit c W' F3 H3 := st2.step s3 c3
      have p3 : Pre X.kk z.ci (O.filter fun i => decide (i ∉ own)) c W' A (wipeE env own) cp2 F3 (wipe σ own) H3 := (((p.step s2 c2).step (s3.weak hW') c3).wipe own hci).more hW' st3
      -- the target
      cases hg : g d (wipeE env own) with
      | none =>
        have : lcGo g ft fe (wipeE env own) (d :: ds.drop (i + 1)) cp2 = .bad := by rw [lcGo, hg]
        rw [this] at q2
        exact q2.elim
      | some env' =>
        have e4 : lcGo g ft fe (wipeE env own) (d :: ds.drop (i + 1)) cp2 = (nE (ft env' cp2)).bind fun b cp1 => match b with
            | .bool true => (nE (fe env' cp1)).bind fun y cp2 => (lcGo g ft fe (wipeE env own) (ds.drop (i + 1)) cp2).bind fun ys cp3 => .ok (y :: ys) cp3
            | .bool false => lcGo g ft fe (wipeE env own) (ds.drop (i + 1)) cp1
            | _ => .bad := by rw [lcGo, hg]
        rw [e4, Res.bind_assoc] at q2
        refine ⟨c, W', A, wipeE env own, cp2, F3, d, env', p3, r3, hg, fun σ' p4 off => ⟨wipe_off ⟨off.1, fun j hj => off.2 j fun z => hj (hgs j z)⟩, ?_⟩⟩
        -- the test
        have hDn : ∀ {F4 H4 : Hp}, Stp c W' F3 H3 F4 H4 → H4 Dn = some (.lst vs) := fun s4 => s4.h Dn _ hDc (s3.h Dn _ hDc hv)
        refine ⟨c, W', A, env', cp2, F3, p4, (aft_okA q2).imp fun b cp3 F4 H4 s4 c4 q4 b' hb => ?_⟩
        subst hb
        have s24 := s2.trans ((s3.trans s4).weak hW')
        cases b' with
        | false => exact iteF ⟨F4, cp3, vs, done, s24, st3.step s4 c4, c4, hDn s4, rv.mono (s3.f.trans s4.f), by omega, q4⟩
        | true =>
          refine iteT ⟨c, W', A, env', cp3, F4, p4.step s4 c4, ?_⟩
          have q4 : Aft z.E c W F H (((nE (fe env' cp3)).bind fun y cp2 => (lcGo g ft fe (wipeE env own) (ds.drop (i + 1)) cp2).bind fun ys cp3 => .ok (y :: ys) cp3).bind fun out cp3 => .ok (.list (done ++ out)) cp3) fun d _ F' H' => ∀ v, Fr X.kk H F' H' v d → Q v H' := q4
          rw [Res.bind_assoc] at q4
          refine (aft_okA q4).imp fun y cp4 F5 H5 s5 c5 q5 yv ry => ⟨vs, hDn (s4.trans s5), Nat.lt_of_le_of_lt hl (Nat.lt_of_lt_of_le hlt sj.len), ?_⟩
          have st5 : Sit c W' F5 H5 := (st3.step s4 c4).step s5 c5
          have f5 : F5 Dn = none := st5.wf Dn (.inr rfl)
          have s25 := s24.trans (s5.weak hW')
          have c5' : (upd H5 Dn (HO.lst (vs ++ [yv]))) c = some (cupV cp4) := by rw [upd_ne hDc.symm]; exact c5
          refine ⟨F5, cp4, vs ++ [yv], done ++ [y], s25.atNew hD f5, ⟨(s25.atNew hD f5).sub, st5.wc, fun b hb => ?_, st5.wf⟩, c5', upd_same, (rv.mono ((s3.f.trans s4.f).trans s5.f)).append (.cons ry .nil), by rw [List.length_append]; show vs.length + 1 ≤ i + 1; omega, ?_⟩
          · by_cases hb2 : b = Dn
            · subst hb2; exact ⟨_, upd_same⟩
            · obtain ⟨o, ho⟩ := st5.wh b hb
              exact ⟨o, by rw [upd_ne hb2]; exact ho⟩
          · have q5 : Aft z.E c W F H (((lcGo g ft fe (wipeE env own) (ds.drop (i + 1)) cp4).bind fun ys cp3 => .ok (y :: ys) cp3).bind fun out cp3 => .ok (.list (done ++ out)) cp3) fun d _ F' H' => ∀ v, Fr X.kk H F' H' v d → Q v H' := q5
            rw [Res.bind_assoc] at q5
            have e6 : ((lcGo g ft fe (wipeE env own) (ds.drop (i + 1)) cp4).bind fun a c => (Res.ok (y :: a) c).bind fun out cp3 => Res.ok (PyData.list (done ++ out)) cp3) = (lcGo g ft fe (wipeE env own) (ds.drop (i + 1)) cp4).bind fun out cp3 => .ok (.list ((done ++ [y]) ++ out)) cp3 := by
              congr 1
              funext a c
              show Res.ok (PyData.list (done ++ y :: a)) c = _
              rw [List.append_assoc]
              rfl
            rw [e6] at q5
            exact q5
    · have e : i = ds.length := by omega
      subst e
      refine .inl ⟨sj.stop F2 H2 s2, ?_⟩
      rw [List.drop_length] at q2
      have := q2 F2 H2 s2 c2
      rw [List.append_nil] at this
      exact this _ (.inr ⟨Dn, rfl, hD, st2.wf Dn (.inr rfl), vs, hv, Nat.le_trans hl sj.len, rv⟩)
theorem q_lc {elt tg iter : Expr} {ifs : List Expr} {scope : Scope} {own : List (Str × Nat)} {pos : Pos} {gs : List Nat} {g : Tg} {fs : Evs} {ft fe : Ev} (hc : X.calm = true) (hN : X.N.Nodup) (hi : QI X z O tg iter fs) (ok : BlkOk X.N X.env.scope scope own)
    (hg : ∀ (s : Shared) (H : Hp) (C : Addr) (cl : List (Str × Addr)) (fp : List Addr), QG (X.blk s H scope (compEnvC scope cl C X.env) fp) z.in (O.filter fun i => decide (i ∉ own.map (·.2))) tg gs g)
    (ht : ∀ (s : Shared) (H : Hp) (C : Addr) (cl : List (Str × Addr)) (fp : List Addr), QTs (X.blk s H scope (compEnvC scope cl C X.env) fp) z.in (O.filter fun i => decide (i ∉ own.map (·.2))) ifs ft)
    (he : ∀ (s : Shared) (H : Hp) (C : Addr) (cl : List (Str × Addr)) (fp : List Addr), QE (X.blk s H scope (compEnvC scope cl C X.env) fp) z.in (O.filter fun i => decide (i ∉ own.map (·.2))) elt fe)
    (hgs : ∀ i ∈ gs, i ∈ own.map (·.2) := by decide) (hci : ∀ i, z.ci = some i → i ∉ own.map (·.2) := by intro i h; cases h <;> decide) (hs : ∀ x, foldedSetIterable iter X.env x = pure x := by intro _; rfl) : QF X z O (.ListComp elt [⟨tg, iter, ifs, 0⟩] scope pos) (eLc (own.map (·.2)) g fs ft fe) :=
  ⟨PE.to (pe_lc hc hN hi.pi ok (fun s H C cl fp => (hg s H C cl fp).pg) (fun s H C cl fp => (ht s H C cl fp).pt) (fun s H C cl fp => (he s H C cl fp).pe) hs) (lc_go hgs hci)⟩
end
end MP
namespace MP
open PySem PySem.Spec PyProof.Rows L2

/-! ## statements -/
inductive Out where
  | nx (env : Env) | rt (d : D) | bk (env : Env) | ct (env : Env)
abbrev Sv := Env → Cup → Res Out
/-- the state of a body: since its entry (F0, H0) -/
def PreS (K : MpK) (ci : Option Nat) (O : List Nat) (c : Addr) (W0 : Addr → Prop) (F0 H0 : Hp) (env : Env) (cp : Cup) (σ : L2.St) (H : Hp) : Prop :=
  ∃ W A F, Pre K ci O c W A env cp F σ H ∧ (∀ b, W0 b → W b) ∧ (∀ (i : Nat) (a : Addr), i ∈ O → A i = some a → ¬ W0 a) ∧ (∀ (i : Nat) (a : Addr), i ∈ O → A i = some a → H0 a = none) ∧ Stp c W0 F0 H0 F H
def SAft (K : MpK) (E : Str → Hp → Prop) (ci : Option Nat) (L O' : List Nat) (c : Addr) (W0 : Addr → Prop) (F0 H0 : Hp) (Dn : Ends) (r : Res Out) : Prop := match r with
  | .ok (.nx env') cp' => ∀ σ' H', PreS K ci O' c W0 F0 H0 env' cp' σ' H' → Dn.nx σ' H'
  | .ok (.rt d) cp' => ∀ F' H' v, Stp c W0 F0 H0 F' H' → H' c = some (cupV cp') → Rp K F' v d → Dn.rt v H'
  | .ok (.bk env') cp' => ∀ σ' H', PreS K ci L c W0 F0 H0 env' cp' σ' H' → Dn.bk σ' H'
  | .ok (.ct env') cp' => ∀ σ' H', PreS K ci L c W0 F0 H0 env' cp' σ' H' → Dn.ct σ' H'
  | .err e cp' => ∀ F' H', Stp c W0 F0 H0 F' H' → H' c = some (cupV cp') → E e H'
  | .bad => False
def tSv (K : MpK) (z : Z) (L O O' : List Nat) (s : Sv) : TS := fun Dn σ H => ∃ c W0 F0 H0 env cp, PreS K z.ci O c W0 F0 H0 env cp σ H ∧ SAft K z.E z.ci L O' c W0 F0 H0 Dn (s env cp)
structure QS (X : Cx) (z : Z) (L O : List Nat) (st : Stmt) (s : Sv) (O' : List Nat) : Prop where
  ps : PS X st (tSv X.kk z L O O' s)
structure QSs (X : Cx) (z : Z) (L O : List Nat) (st : List Stmt) (s : Sv) (O' : List Nat) : Prop where
  ps : PSs X st (tSv X.kk z L O O' s)
section
variable {K : MpK} {ci : Option Nat} {O O' L : List Nat} {c : Addr} {W0 : Addr → Prop} {F0 H0 : Hp} {env : Env} {cp : Cup} {σ : L2.St} {H : Hp} {E : Str → Hp → Prop} {Dn : Ends}
/-- give one slot's list away -/
theorem Pre.freeze1 {W : Addr → Prop} {A : Nat → Option Addr} {F : Hp} (p : Pre K ci O c W A env cp F σ H) (i : Nat) : ∃ W' F', Pre K ci (O.filter fun j => decide (j ≠ i)) c W' A env cp F' σ H ∧ (∀ b, W' b → W b) ∧ (∀ b, W b → (∀ a, i ∈ O → A i = some a → b ≠ a) → W' b) ∧ Same F F' ∧ (∀ b, F b = none → (∀ a, i ∈ O → A i = some a → b ≠ a) → F' b = none) := by
  have sub : ∀ j, j ∈ (O.filter fun j => decide (j ≠ i)) → j ∈ O := fun j h => (List.mem_filter.mp h).1
  have nei : ∀ j, j ∈ (O.filter fun j => decide (j ≠ i)) → j ≠ i := fun j h => by simpa using (List.mem_filter.mp h).2
  have inn : ∀ j, j ∈ O → j ≠ i → j ∈ (O.filter fun j => decide (j ≠ i)) := fun j h k => List.mem_filter.mpr ⟨h, by simpa using k⟩
  by_cases go : ∃ a d, i ∈ O ∧ A i = some a ∧ env[i]? = some (some d)
  · obtain ⟨a, d, hi, ha, he⟩ := go
    obtain ⟨k1, k2, k3, k4⟩ := p.ow i d a he hi ha
    obtain ⟨o, ho, hr⟩ : ∃ o, H a = some o ∧ ∀ F', Same F F' → F' a = some o → Rp K F' (.ref a) d := by
      cases d with
      | list ds => obtain ⟨vs, h1, hl, h2⟩ := k2; exact ⟨_, h1, fun F' s e => .lst e hl (h2.mono s)⟩
      | dict ds =>
        rcases k2 with ⟨vs, h1, h2⟩ | ⟨vs, h1, hn, hl, h2⟩
        · exact ⟨_, h1, fun F' s e => .dct e (h2.mono s)⟩
        · exact ⟨_, h1, fun F' s e => .dctT e hn hl (h2.mono s)⟩
      | _ => exact k2.elim
    have fa : F a = none := p.wf a k3
    have sm : Same F (upd F a o) := fun b x e => by rw [upd_ne (ne_of_none e fa)]; exact e
    refine ⟨fun b => W b ∧ b ≠ a, upd F a o, ⟨fun b x e => ?_, p.cup, ⟨p.wc, k4.symm⟩, fun b h => p.wh b h.1, fun b h => by rw [upd_ne h.2]; exact p.wf b h.1, fun j e h1 h2 => ?_, fun j e b h1 h2 h3 => ?_, fun j e h1 h2 h3 => p.bx j e h1 (sub j h2) h3, fun j l b h1 h2 => p.dj j l b (sub j h1) (sub l h2), fun j b h1 h2 => ⟨p.aw j b (sub j h1) h2, fun z => nei j h1 (p.dj j i a (sub j h1) hi (z ▸ h2) ha)⟩, fun j hj => ?_, p.ln⟩, fun b h => h.1, fun b h k => ⟨h, k a hi ha⟩, sm, fun b h k => by rw [upd_ne (k a hi ha)]; exact h⟩
    · by_cases q : b = a
      · subst q; rw [upd_same] at e; cases e; exact ho
      · rw [upd_ne q] at e; exact p.sub _ _ e
    · by_cases hj : j = i
      · subst hj
        rw [he] at h1
        cases h1
        exact ⟨_, k1, hr _ sm upd_same⟩
      · obtain ⟨v, h3, h4⟩ := p.sl j e h1 (h2.elim (fun z => .inl fun w => z (inn j w hj)) .inr)
        exact ⟨v, h3, h4.mono sm⟩
    · obtain ⟨q1, q2, q3, q4⟩ := p.ow j e b h1 (sub j h2) h3
      refine ⟨q1, q2.mono sm fun _ h => h, ⟨q3, fun z => nei j h2 (p.dj j i a (sub j h2) hi (z ▸ h3) ha)⟩, q4⟩
    · obtain ⟨h1, h2, h3⟩ := p.cs j hj
      exact ⟨h1, fun z => h2 (sub j z), h3⟩
  · refine ⟨W, F, ⟨p.sub, p.cup, p.wc, p.wh, p.wf, fun j e h1 h2 => ?_, fun j e b h1 h2 h3 => p.ow j e b h1 (sub j h2) h3, fun j e h1 h2 h3 => p.bx j e h1 (sub j h2) h3, fun j l b h1 h2 => p.dj j l b (sub j h1) (sub l h2), fun j b h1 => p.aw j b (sub j h1), fun j hj => ?_, p.ln⟩, fun _ h => h, fun _ h _ => h, Same.refl _, fun _ h _ => h⟩
    · refine p.sl j e h1 ?_
      rcases h2 with h2 | h2
      · by_cases hj : j = i
        · subst hj
          by_cases hO : j ∈ O
          · right
            cases ha : A j with
            | none => rfl
            | some a => exact absurd ⟨a, e, hO, ha, h1⟩ go
          · exact .inl hO
        · exact .inl fun w => h2 (inn j w hj)
      · exact .inr h2
    · obtain ⟨h1, h2, h3⟩ := p.cs j hj
      exact ⟨h1, fun z => h2 (sub j z), h3⟩
theorem PreS.freeze1 (p : PreS K ci O c W0 F0 H0 env cp σ H) (i : Nat) : PreS K ci (O.filter fun j => decide (j ≠ i)) c W0 F0 H0 env cp σ H := by
  obtain ⟨W, A, F, p, h1, h2, h3, s⟩ := p
  obtain ⟨W', F', p', k1, k2, k3, k4⟩ := p.freeze1 i
  have na : ∀ b, W0 b → ∀ a, i ∈ O → A i = some a → b ≠ a := fun b hb a hi ha z => h2 i a hi ha (z ▸ hb)
  exact ⟨W', A, F', p', fun b hb => k2 b (h1 b hb) (na b hb), fun j a hj => h2 j a (List.mem_filter.mp hj).1, fun j a hj => h3 j a (List.mem_filter.mp hj).1, s.f.trans k3, p'.sub, s.h, fun b hb => k4 b (s.w b hb) (na b hb)⟩
theorem filter_many (O : List Nat) : ∀ l : List Nat, (l.foldl (fun O i => O.filter fun j => decide (j ≠ i)) O) = O.filter fun j => decide (j ∉ l) := by
  intro l
  induction l generalizing O with
  | nil => exact (List.filter_eq_self.mpr fun _ _ => by simp).symm
  | cons a l ih =>
    rw [List.foldl_cons, ih, List.filter_filter]
    congr 1
    funext j
    by_cases h1 : j = a <;> by_cases h2 : j ∈ l <;> simp [h1, h2]
theorem PreS.freezeL (p : PreS K ci O c W0 F0 H0 env cp σ H) : ∀ l : List Nat, PreS K ci (l.foldl (fun O i => O.filter fun j => decide (j ≠ i)) O) c W0 F0 H0 env cp σ H := by
  intro l
  induction l generalizing O with
  | nil => exact p
  | cons a l ih => exact ih (p.freeze1 a)
/-- only the members count -/
theorem PreS.ext {O2 : List Nat} (p : PreS K ci O c W0 F0 H0 env cp σ H) (h : ∀ i, i ∈ O2 ↔ i ∈ O) : PreS K ci O2 c W0 F0 H0 env cp σ H := by
  obtain ⟨W, A, F, p, h1, h2, h3, s⟩ := p
  exact ⟨W, A, F, ⟨p.sub, p.cup, p.wc, p.wh, p.wf, fun j e q1 q2 => p.sl j e q1 (q2.imp (fun z w => z ((h j).mpr w)) id), fun j e b q1 q2 => p.ow j e b q1 ((h j).mp q2), fun j e q1 q2 => p.bx j e q1 ((h j).mp q2), fun j l b q1 q2 => p.dj j l b ((h j).mp q1) ((h l).mp q2), fun j b q1 => p.aw j b ((h j).mp q1), fun j hj => by
    obtain ⟨k1, k2, k3⟩ := p.cs j hj
    exact ⟨k1, fun z => k2 ((h j).mp z), k3⟩, p.ln⟩, h1, fun j a q => h2 j a ((h j).mp q), fun j a q => h3 j a ((h j).mp q), s⟩
theorem PreS.weak {O2 : List Nat} (p : PreS K ci O c W0 F0 H0 env cp σ H) (h : ∀ i, i ∈ O2 → i ∈ O) : PreS K ci O2 c W0 F0 H0 env cp σ H := by
  refine (p.freezeL (O.filter fun i => decide (i ∉ O2))).ext fun i => ?_
  rw [filter_many]
  simp only [List.mem_filter, decide_eq_true_eq, not_and, Decidable.not_not]
  exact ⟨fun k => ⟨h i k, fun _ => k⟩, fun k => k.2 k.1⟩
theorem PreS.rebase {F1 : Hp} (p : PreS K ci O c W0 F1 H0 env cp σ H) (h : Same F0 F1) : PreS K ci O c W0 F0 H0 env cp σ H := by
  obtain ⟨W, A, F, p, h1, h2, h3, s⟩ := p
  exact ⟨W, A, F, p, h1, h2, h3, h.trans s.f, s.sub, s.h, s.w⟩
theorem SAft.rebase {F1 : Hp} {r : Res Out} (a : SAft K E ci L O' c W0 F0 H0 Dn r) (h : Same F0 F1) : SAft K E ci L O' c W0 F1 H0 Dn r := by
  cases r with
  | ok o cp' =>
    cases o with
    | nx env' => exact fun σ' H' p => a σ' H' (p.rebase h)
    | rt d => exact fun F' H' v s => a F' H' v ⟨h.trans s.f, s.sub, s.h, s.w⟩
    | bk env' => exact fun σ' H' p => a σ' H' (p.rebase h)
    | ct env' => exact fun σ' H' p => a σ' H' (p.rebase h)
  | err e cp' => exact fun F' H' s => a F' H' ⟨h.trans s.f, s.sub, s.h, s.w⟩
  | bad => exact a
/-- an expression within a statement -/
theorem saft_e {α : Type} {W : Addr → Prop} {F : Hp} {r : Res α} {g : α → Cup → Res Out} (hW : ∀ b, W0 b → W b) (s0 : Stp c W0 F0 H0 F H) (h : SAft K E ci L O' c W0 F0 H0 Dn (r.bind g)) : Aft E c W F H r fun d cp1 _ _ => SAft K E ci L O' c W0 F0 H0 Dn (g d cp1) := by
  cases r with
  | ok d cp1 => exact fun F' H' s e => h
  | err x cp1 => exact fun F' H' s e => h F' H' (s0.trans (s.weak hW)) e
  | bad => exact h
end
section
variable {X : Cx} {z : Z} {L O O' O2 : List Nat} {st : Stmt} {sts : List Stmt} {s : Sv}
theorem QS.weak (h : QS X z L O2 st s O') (k : ∀ i, i ∈ O2 → i ∈ O := by decide) : QS X z L O st s O' := ⟨PS.to h.ps fun Dn σ H ⟨c, W0, F0, H0, env, cp, p, q⟩ => ⟨c, W0, F0, H0, env, cp, p.weak k, q⟩⟩
theorem SAft.out {K : MpK} {ci : Option Nat} {c : Addr} {W0 : Addr → Prop} {F0 H0 : Hp} {E : Str → Hp → Prop} {Dn : Ends} {r : Res Out} (a : SAft K E ci L O2 c W0 F0 H0 Dn r) (k : ∀ i, i ∈ O2 → i ∈ O') : SAft K E ci L O' c W0 F0 H0 Dn r := by
  cases r with
  | ok o cp' =>
    cases o with
    | nx env' => exact fun σ' H' p => a σ' H' (p.weak k)
    | _ => exact a
  | _ => exact a
theorem QS.out (h : QS X z L O st s O') (k : ∀ i, i ∈ O2 → i ∈ O' := by decide) : QS X z L O st s O2 := ⟨PS.to h.ps fun Dn σ H ⟨c, W0, F0, H0, env, cp, p, q⟩ => ⟨c, W0, F0, H0, env, cp, p, SAft.out q k⟩⟩
theorem QSs.out (h : QSs X z L O sts s O') (k : ∀ i, i ∈ O2 → i ∈ O' := by decide) : QSs X z L O sts s O2 := ⟨PSs.to h.ps fun Dn σ H ⟨c, W0, F0, H0, env, cp, p, q⟩ => ⟨c, W0, F0, H0, env, cp, p, SAft.out q k⟩⟩
def sNil : Sv := fun env cp => .ok (.nx env) cp
def sSeq (s t : Sv) : Sv := fun env cp => (s env cp).bind fun o cp1 => match o with
  | .nx env' => t env' cp1
  | o => .ok o cp1
theorem qss_nil : QSs X z L O [] sNil O := ⟨PSs.to pss_nil fun Dn σ H ⟨c, W0, F0, H0, env, cp, p, q⟩ => q σ H p⟩
theorem qss_one (h : QS X z L O st s O') : QSs X z L O [st] s O' := ⟨pss_one h.ps⟩
theorem qss_cons {t : Sv} (h : QS X z L O st s O2) (k : QSs X z L O2 sts t O') : QSs X z L O (st :: sts) (sSeq s t) O' := ⟨PSs.to (pss_cons h.ps k.ps) fun Dn σ H ⟨c, W0, F0, H0, env, cp, p, q⟩ => ⟨c, W0, F0, H0, env, cp, p, by
  unfold sSeq at q
  generalize s env cp = r at q
  cases r with
  | ok o cp' =>
    cases o with
    | nx env' => exact fun σ' H' p' => ⟨c, W0, F0, H0, env', cp', p', q⟩
    | rt d => exact q
    | bk env' => exact q
    | ct env' => exact q
  | err e cp' => exact q
  | bad => exact q⟩⟩
/-! small ones -/
def sRet (f : Ev) : Sv := fun env cp => (f env cp).bind fun d cp1 => .ok (.rt d) cp1
theorem q_ret {e : Expr} {f : Ev} {pos : Pos} (h : QE X z O e f) : QS X z L O (.Return (some e) pos) (sRet f) O' := ⟨PS.to (ps_ret h.pe) fun Dn σ H ⟨c, W0, F0, H0, env, cp, ⟨W, A, F, p, h1, h2, h3, s0⟩, q⟩ => ⟨c, W, A, env, cp, F, p, (saft_e h1 s0 q).imp fun d cp1 F' H' s e q v r => q F' H' v (s0.trans (s.weak h1)) e r⟩⟩
def sRetN : Sv := fun env cp => .ok (.rt .none) cp
theorem q_retN {pos : Pos} : QS X z L O (.Return none pos) sRetN O' := ⟨PS.to ps_retN fun Dn σ H ⟨c, W0, F0, H0, env, cp, ⟨W, A, F, p, h1, h2, h3, s0⟩, q⟩ => q F H _ s0 p.cup .non⟩
def sDrop (f : Ev) : Sv := fun env cp => (f env cp).bind fun _ cp1 => .ok (.nx env) cp1
theorem PreS.step {K : MpK} {ci : Option Nat} {c : Addr} {W0 W : Addr → Prop} {A : Nat → Option Addr} {F0 H0 F H F' H' : Hp} {env : Env} {cp cp' : Cup} {σ : L2.St} (p : Pre K ci O c W A env cp F σ H) (h1 : ∀ b, W0 b → W b) (h2 : ∀ (i : Nat) (a : Addr), i ∈ O → A i = some a → ¬ W0 a) (h3 : ∀ (i : Nat) (a : Addr), i ∈ O → A i = some a → H0 a = none)
    (s0 : Stp c W0 F0 H0 F H) (s : Stp c W F H F' H') (e : H' c = some (cupV cp')) : PreS K ci O c W0 F0 H0 env cp' σ H' := ⟨W, A, F', p.step s e, h1, h2, h3, s0.trans (s.weak h1)⟩
theorem q_drop {e : Expr} {f : Ev} {pos : Pos} (h : QE X z O e f) (hs : swapsWith e none pos.line X.env = pure false := by rfl) : QS X z L O (.Expr e pos) (sDrop f) O := ⟨PS.to (ps_expr h.pe hs) fun Dn σ H ⟨c, W0, F0, H0, env, cp, ⟨W, A, F, p, h1, h2, h3, s0⟩, q⟩ => ⟨c, W, A, env, cp, F, p, (saft_e h1 s0 q).imp fun d cp1 F' H' s e q v r => q σ H' (PreS.step p h1 h2 h3 s0 s e)⟩⟩
def sSet (i : Nat) (f : Ev) : Sv := fun env cp => (f env cp).bind fun d cp1 => .ok (.nx (env.set i (some d))) cp1
theorem q_set {i : Nat} {x : Str} {e : Expr} {f : Ev} {pos pos' : Pos} (hN : X.N.Nodup) (h : QE X z O e f) (hO : i ∉ O := by decide) (hc : z.ci ≠ some i := by intro h; cases h) (hi : X.N[i]? = some x := by rfl) (hx : Loc X.env.scope x := by first | exact Or.inl rfl | exact Or.inr rfl) (hs : swapsWith e (some (.Name x pos')) pos.line X.env = pure false := by rfl)
    (hf : X.fn x = true ∨ X.env.scope.names.lookup x = some .local := by first | exact .inl rfl | exact .inr rfl) : QS X z L O (.Assign [.Name x pos'] e pos) (sSet i f) O :=
  ⟨PS.to (ps_set hN hi hx h.pe hs hf) fun Dn σ H ⟨c, W0, F0, H0, env, cp, ⟨W, A, F, p, h1, h2, h3, s0⟩, q⟩ => ⟨c, W, A, env, cp, F, p, (saft_e h1 s0 q).imp fun d cp1 F' H' s e q v r => q _ H' ⟨W, A, F', (p.step s e).set hO hc r, h1, h2, h3, s0.trans (s.weak h1)⟩⟩⟩
/-- a fresh thing comes to a slot -/
theorem Pre.setF {K : MpK} {ci : Option Nat} {c : Addr} {W : Addr → Prop} {A : Nat → Option Addr} {F H F' H' : Hp} {env : Env} {cp cp' : Cup} {σ : L2.St} {i : Nat} {v : V} {d : D} (p : Pre K ci O c W A env cp F σ H) (hi : i ∉ O) (hc : ci ≠ some i) (s : Stp c W F H F' H') (e : H' c = some (cupV cp')) (r : Fr K H F' H' v d) :
    ∃ W' A', Pre K ci (i :: O) c W' A' (env.set i (some d)) cp' F' (σ.set i (some v)) H' ∧ (∀ b, W b → W' b) ∧ (∀ j, j ≠ i → A' j = A j) ∧ (∀ a, A' i = some a → H a = none) := by
  have p' := p.step s e
  have neq : ∀ j, j ∈ O → i ≠ j := fun j hj z => hi (z ▸ hj)
  have back : ∀ {j : Nat} {d' : D}, i ≠ j → (env.set i (some d))[j]? = some (some d') → env[j]? = some (some d') := fun hj h => by rw [List.getElem?_set_ne hj] at h; exact h
  have len : ∀ {d' : D}, (env.set i (some d))[i]? = some (some d') → d' = d ∧ i < σ.length := fun h => by
    have hl : i < env.length := by
      obtain ⟨h, _⟩ := List.getElem?_eq_some_iff.mp h
      simpa using h
    rw [List.getElem?_set_self hl] at h
    cases h
    exact ⟨rfl, by rw [← p.ln]; exact hl⟩
  have cs : ∀ j, ci = some j → (σ.set i (some v))[j]? = some (some (.ref c)) ∧ j ∉ i :: O ∧ ∀ d', (env.set i (some d))[j]? ≠ some (some d') := fun j hj => by
    obtain ⟨k1, k2, k3⟩ := p.cs j hj
    have hn : i ≠ j := fun z => hc (z ▸ hj)
    refine ⟨by rw [List.getElem?_set_ne hn]; exact k1, by rw [List.mem_cons, not_or]; exact ⟨hn.symm, k2⟩, fun d' q => k3 d' (back hn q)⟩
  rcases r with ⟨nb, r⟩ | ⟨a, rfl, hn, hf, ho⟩
  · refine ⟨W, fun j => if j = i then none else A j, ⟨p'.sub, p'.cup, p'.wc, p'.wh, p'.wf, fun j d' q1 q2 => ?_, fun j d' b q1 q2 q3 => ?_, fun j d' q1 q2 q3 => ?_, fun j l b q1 q2 q3 q4 => ?_, fun j b q1 q2 => ?_, cs, by rw [List.length_set, List.length_set]; exact p.ln⟩, fun _ h => h, fun j hj => if_neg hj, fun a ha => ?_⟩
    · by_cases hj : i = j
      · subst hj
        obtain ⟨rfl, hl⟩ := len q1
        exact ⟨v, List.getElem?_set_self hl, r⟩
      · rw [List.getElem?_set_ne hj]
        refine p'.sl j d' (back hj q1) (q2.imp (fun z w => z (List.mem_cons_of_mem _ w)) fun z => ?_)
        have z' : (if j = i then none else A j) = none := z
        rw [if_neg (Ne.symm hj)] at z'
        exact z'
    · have q3' : (if j = i then none else A j) = some b := q3
      by_cases hj : i = j
      · rw [if_pos hj.symm] at q3'; cases q3'
      · rw [if_neg (Ne.symm hj)] at q3'
        rw [List.getElem?_set_ne hj]
        exact p'.ow j d' b (back hj q1) ((List.mem_cons.mp q2).elim (fun z => absurd z.symm hj) id) q3'
    · by_cases hj : i = j
      · subst hj
        obtain ⟨rfl, _⟩ := len q1
        exact nb
      · have q3' : (if j = i then none else A j) = none := q3
        rw [if_neg (Ne.symm hj)] at q3'
        exact p'.bx j d' (back hj q1) ((List.mem_cons.mp q2).elim (fun z => absurd z.symm hj) id) q3'
    · have q3' : (if j = i then none else A j) = some b := q3
      have q4' : (if l = i then none else A l) = some b := q4
      by_cases hj : j = i
      · rw [if_pos hj] at q3'; cases q3'
      · by_cases hl : l = i
        · rw [if_pos hl] at q4'; cases q4'
        · rw [if_neg hj] at q3'
          rw [if_neg hl] at q4'
          exact p'.dj j l b ((List.mem_cons.mp q1).elim (fun z => absurd z hj) id) ((List.mem_cons.mp q2).elim (fun z => absurd z hl) id) q3' q4'
    · have q2' : (if j = i then none else A j) = some b := q2
      by_cases hj : j = i
      · rw [if_pos hj] at q2'; cases q2'
      · rw [if_neg hj] at q2'
        exact p'.aw j b ((List.mem_cons.mp q1).elim (fun z => absurd z hj) id) q2'
    · have ha' : (if i = i then none else A i) = some a := ha
      rw [if_pos rfl] at ha'
      cases ha'
  · have nW : ¬ W a := fun h => by
      obtain ⟨o, ho⟩ := p.wh a h
      rw [hn] at ho
      cases ho
    have nc : a ≠ c := fun z => nW (z ▸ p.wc)
    have there : ∃ o, H' a = some o := by
      cases d with
      | list ds => obtain ⟨vs, h1, _⟩ := ho; exact ⟨_, h1⟩
      | dict ds => rcases ho with ⟨vs, h1, _⟩ | ⟨vs, h1, _⟩ <;> exact ⟨_, h1⟩
      | _ => exact ho.elim
    refine ⟨fun b => W b ∨ b = a, fun j => if j = i then some a else A j, ⟨p'.sub, p'.cup, .inl p'.wc, fun b hb => hb.elim (p'.wh b) fun z => z ▸ there, fun b hb => hb.elim (p'.wf b) fun z => z ▸ hf, fun j d' q1 q2 => ?_, fun j d' b q1 q2 q3 => ?_, fun j d' q1 q2 q3 => ?_, fun j l b q1 q2 q3 q4 => ?_, fun j b q1 q2 => ?_, cs, by rw [List.length_set, List.length_set]; exact p.ln⟩, fun _ h => .inl h, fun j hj => if_neg hj, fun b hb => ?_⟩
    · by_cases hj : i = j
      · subst hj
        rcases q2 with q2 | q2
        · exact absurd List.mem_cons_self q2
        · have q2' : (if i = i then some a else A i) = none := q2
          rw [if_pos rfl] at q2'
          cases q2'
      · rw [List.getElem?_set_ne hj]
        refine p'.sl j d' (back hj q1) (q2.imp (fun z w => z (List.mem_cons_of_mem _ w)) fun z => ?_)
        have z' : (if j = i then some a else A j) = none := z
        rw [if_neg (Ne.symm hj)] at z'
        exact z'
    · have q3' : (if j = i then some a else A j) = some b := q3
      by_cases hj : i = j
      · subst hj
        rw [if_pos rfl] at q3'
        cases q3'
        obtain ⟨rfl, hl⟩ := len q1
        exact ⟨List.getElem?_set_self hl, ho, .inr rfl, nc⟩
      · rw [if_neg (Ne.symm hj)] at q3'
        rw [List.getElem?_set_ne hj]
        obtain ⟨k1, k2, k3, k4⟩ := p'.ow j d' b (back hj q1) ((List.mem_cons.mp q2).elim (fun z => absurd z.symm hj) id) q3'
        exact ⟨k1, k2, .inl k3, k4⟩
    · have q3' : (if j = i then some a else A j) = none := q3
      by_cases hj : i = j
      · rw [if_pos hj.symm] at q3'; cases q3'
      · rw [if_neg (Ne.symm hj)] at q3'
        exact p'.bx j d' (back hj q1) ((List.mem_cons.mp q2).elim (fun z => absurd z.symm hj) id) q3'
    · have q3' : (if j = i then some a else A j) = some b := q3
      have q4' : (if l = i then some a else A l) = some b := q4
      by_cases hj : j = i
      · by_cases hl : l = i
        · rw [hj, hl]
        · rw [if_pos hj] at q3'
          rw [if_neg hl] at q4'
          cases q3'
          exact absurd (p'.aw l _ ((List.mem_cons.mp q2).elim (fun z => absurd z hl) id) q4') nW
      · by_cases hl : l = i
        · rw [if_neg hj] at q3'
          rw [if_pos hl] at q4'
          cases q4'
          exact absurd (p'.aw j _ ((List.mem_cons.mp q1).elim (fun z => absurd z hj) id) q3') nW
        · rw [if_neg hj] at q3'
          rw [if_neg hl] at q4'
          exact p'.dj j l b ((List.mem_cons.mp q1).elim (fun z => absurd z hj) id) ((List.mem_cons.mp q2).elim (fun z => absurd z hl) id) q3' q4'
    · have q2' : (if j = i then some a else A j) = some b := q2
      by_cases hj : j = i
      · rw [if_pos hj] at q2'; cases q2'; exact .inr rfl
      · rw [if_neg hj] at q2'
        exact .inl (p'.aw j b ((List.mem_cons.mp q1).elim (fun z => absurd z hj) id) q2')
    · have hb' : (if i = i then some a else A i) = some b := hb
      rw [if_pos rfl] at hb'
      cases hb'
      exact hn
theorem PreS.setF {K : MpK} {ci : Option Nat} {c : Addr} {W0 W : Addr → Prop} {A : Nat → Option Addr} {F0 H0 F H F' H' : Hp} {env : Env} {cp cp' : Cup} {σ : L2.St} {i : Nat} {v : V} {d : D} (p : Pre K ci O c W A env cp F σ H) (h1 : ∀ b, W0 b → W b) (h2 : ∀ (i : Nat) (a : Addr), i ∈ O → A i = some a → ¬ W0 a) (h3 : ∀ (i : Nat) (a : Addr), i ∈ O → A i = some a → H0 a = none)
    (s0 : Stp c W0 F0 H0 F H) (hi : i ∉ O) (hc : ci ≠ some i) (s : Stp c W F H F' H') (e : H' c = some (cupV cp')) (r : Fr K H F' H' v d) : PreS K ci (i :: O) c W0 F0 H0 (env.set i (some d)) cp' (σ.set i (some v)) H' := by
  obtain ⟨W', A', p', k1, k2, k3⟩ := p.setF hi hc s e r
  refine ⟨W', A', F', p', fun b hb => k1 b (h1 b hb), fun j a hj ha => ?_, fun j a hj ha => ?_, s0.trans (s.weak h1)⟩
  · by_cases hji : j = i
    · subst hji
      intro hw
      obtain ⟨o, ho⟩ := p.wh a (h1 a hw)
      rw [k3 a ha] at ho
      cases ho
    · rw [k2 j hji] at ha
      exact h2 j a ((List.mem_cons.mp hj).elim (fun z => absurd z hji) id) ha
  · by_cases hji : j = i
    · subst hji
      cases q : H0 a with
      | none => rfl
      | some o =>
        by_cases hac : a = c
        · subst hac
          have := p.cup
          rw [k3 a ha] at this
          cases this
        · have := s0.h a o hac q
          rw [k3 a ha] at this
          cases this
    · rw [k2 j hji] at ha
      exact h3 j a ((List.mem_cons.mp hj).elim (fun z => absurd z hji) id) ha
theorem q_setF {i : Nat} {x : Str} {e : Expr} {f : Ev} {pos pos' : Pos} (hN : X.N.Nodup) (h : QF X z O e f) (hO : i ∉ O := by decide) (hc : z.ci ≠ some i := by intro h; cases h) (hi : X.N[i]? = some x := by rfl) (hx : Loc X.env.scope x := by first | exact Or.inl rfl | exact Or.inr rfl) (hs : swapsWith e (some (.Name x pos')) pos.line X.env = pure false := by rfl)
    (hf : X.fn x = true ∨ X.env.scope.names.lookup x = some .local := by first | exact .inl rfl | exact .inr rfl) : QS X z L O (.Assign [.Name x pos'] e pos) (sSet i f) (i :: O) :=
  ⟨PS.to (ps_set hN hi hx h.pe hs hf) fun Dn σ H ⟨c, W0, F0, H0, env, cp, ⟨W, A, F, p, h1, h2, h3, s0⟩, q⟩ => ⟨c, W, A, env, cp, F, p, (saft_e h1 s0 q).imp fun d cp1 F' H' s e q v r => q _ H' (PreS.setF p h1 h2 h3 s0 hO hc s e r)⟩⟩
/-- name = [..] on one line, a local name -/
theorem q_setLc {i : Nat} {y : Str} {py : Pos} {elt tg iter : Expr} {ifs : List Expr} {scope : Scope} {own : List (Str × Nat)} {pos spos : Pos} {gs : List Nat} {g : Tg} {fs : Evs} {ft fe : Ev} (hc : X.calm = true) (hN : X.N.Nodup) (hi : QI X z O tg iter fs) (ok : BlkOk X.N X.env.scope scope own)
    (hg : ∀ (s : Shared) (H : Hp) (C : Addr) (cl : List (Str × Addr)) (fp : List Addr), QG (X.blk s H scope (compEnvC scope cl C X.env) fp) z.in (O.filter fun i => decide (i ∉ own.map (·.2))) tg gs g)
    (ht : ∀ (s : Shared) (H : Hp) (C : Addr) (cl : List (Str × Addr)) (fp : List Addr), QTs (X.blk s H scope (compEnvC scope cl C X.env) fp) z.in (O.filter fun i => decide (i ∉ own.map (·.2))) ifs ft)
    (he : ∀ (s : Shared) (H : Hp) (C : Addr) (cl : List (Str × Addr)) (fp : List Addr), QE (X.blk s H scope (compEnvC scope cl C X.env) fp) z.in (O.filter fun i => decide (i ∉ own.map (·.2))) elt fe)
    (hyl : X.env.scope.names.lookup y = some .local := by rfl) (hsw : swapsWith (.ListComp elt [⟨tg, iter, ifs, 0⟩] scope pos) (some (.Name y py)) spos.line X.env = pure true := by exact sw_true rfl rfl rfl (by decide +kernel))
    (hO : i ∉ O := by decide) (hz : z.ci ≠ some i := by intro h; cases h) (hy : X.N[i]? = some y := by rfl) (hgs : ∀ i ∈ gs, i ∈ own.map (·.2) := by decide) (hci : ∀ i, z.ci = some i → i ∉ own.map (·.2) := by intro i h; cases h <;> decide) (hs : ∀ x, foldedSetIterable iter X.env x = pure x := by intro _; rfl) :
    QS X z L O (.Assign [.Name y py] (.ListComp elt [⟨tg, iter, ifs, 0⟩] scope pos) spos) (sSet i (eLc (own.map (·.2)) g fs ft fe)) (i :: O) :=
  ⟨PS.to (ps_setLc hc hN hy hyl hsw hi.pi ok (fun s H C cl fp => (hg s H C cl fp).pg) (fun s H C cl fp => (ht s H C cl fp).pt) (fun s H C cl fp => (he s H C cl fp).pe) hs) fun Dn σ H ⟨c, W0, F0, H0, env, cp, ⟨W, A, F, p, h1, h2, h3, s0⟩, q⟩ =>
    lc_go hgs hci σ H _ ⟨c, W, A, env, cp, F, p, (saft_e h1 s0 q).imp fun d cp1 F' H' s e q v r => q _ H' (PreS.setF p h1 h2 h3 s0 hO hz s e r)⟩⟩
/-- target = e, the target a tuple -/
def sAsg (g : Tg) (f : Ev) : Sv := fun env cp => (f env cp).bind fun d cp1 => match g d env with
  | some env' => .ok (.nx env') cp1
  | none => .bad
theorem q_asg {tg e : Expr} {f : Ev} {g : Tg} {gs : List Nat} {pos : Pos} (h : QE X z O e f) (hg : QG X z O tg gs g) (hs : swapsWithSole [tg] e pos.line X.env = pure false := by rfl) (hw : swappedStores [tg] e X.env = pure none := by rfl) (h1 : (assignEach [tg] X.env).map (·.2) = [assign tg X.env] := by rfl) : QS X z L O (.Assign [tg] e pos) (sAsg g f) O :=
  ⟨PS.to (ps_asg h.pe hg.pg hs hw h1) fun Dn σ H ⟨c, W0, F0, H0, env, cp, ⟨W, A, F, p, h1, h2, h3, s0⟩, q⟩ => ⟨c, W, A, env, cp, F, p, (saft_e h1 s0 q).imp fun d cp1 F' H' s e q v r => by
    cases e2 : g d env with
    | none => simp only [e2] at q; exact q.elim
    | some env' =>
      simp only [e2] at q
      exact ⟨c, W, A, env, cp1, F', d, env', p.step s e, r, e2, fun σ' p' _ => q σ' H' ⟨W, A, F', p', h1, h2, h3, s0.trans (s.weak h1)⟩⟩⟩⟩
/-! if -/
def sIf (c : Ev) (s t : Sv) : Sv := fun env cp => (c env cp).bind fun d cp1 => match d with
  | .bool true => s env cp1
  | .bool false => t env cp1
  | _ => .bad
theorem q_ifS {c : Expr} {a b : List Stmt} {fc : Ev} {s t : Sv} {pos : Pos} (hc : QT X z O c fc) (ha : QSs X z L O a s O') (hb : QSs X z L O b t O') : QS X z L O (.If c a b pos) (sIf fc s t) O' :=
  ⟨PS.to (ps_if hc.pt ha.ps hb.ps) fun Dn σ H ⟨c, W0, F0, H0, env, cp, ⟨W, A, F, p, h1, h2, h3, s0⟩, q⟩ => ⟨c, W, A, env, cp, F, p, (saft_e h1 s0 q).imp fun d cp1 F' H' s e q b hb => by
    subst hb
    have p' := PreS.step p h1 h2 h3 s0 s e
    cases b with
    | true => exact iteT ⟨c, W0, F0, H0, env, cp1, p', q⟩
    | false => exact iteF ⟨c, W0, F0, H0, env, cp1, p', q⟩⟩⟩
theorem q_pass {pos : Pos} : QS X z L O (.Pass pos) sNil O := ⟨PS.to ps_pass fun Dn σ H ⟨c, W0, F0, H0, env, cp, p, q⟩ => q σ H p⟩
def sBrk : Sv := fun env cp => .ok (.bk env) cp
def sCnt : Sv := fun env cp => .ok (.ct env) cp
theorem q_brk {pos : Pos} (h : ∀ i, i ∈ L → i ∈ O := by decide) : QS X z L O (.Break pos) sBrk O' := ⟨PS.to ps_break fun Dn σ H ⟨c, W0, F0, H0, env, cp, p, q⟩ => q σ H (p.weak h)⟩
theorem q_cnt {pos : Pos} (h : ∀ i, i ∈ L → i ∈ O := by decide) : QS X z L O (.Continue pos) sCnt O' := ⟨PS.to ps_continue fun Dn σ H ⟨c, W0, F0, H0, env, cp, p, q⟩ => q σ H (p.weak h)⟩
/-! for -/
def forGo (g : Tg) (body : Sv) : List D → Env → Cup → Res Out
  | [], env, cp => .ok (.nx env) cp
  | d :: ds, env, cp => match g d env with
    | none => .bad
    | some env1 => (body env1 cp).bind fun o cp1 => match o with
      | .nx env2 => forGo g body ds env2 cp1
      | .ct env2 => forGo g body ds env2 cp1
      | .bk env2 => .ok (.nx env2) cp1
      | .rt d => .ok (.rt d) cp1
def sFor (g : Tg) (src : Evs) (body : Sv) : Sv := fun env cp => (src env cp).bind fun ds cp1 => forGo g body ds env cp1
theorem q_for {tg iter : Expr} {body : List Stmt} {g : Tg} {gs : List Nat} {fs : Evs} {s : Sv} {pos : Pos} (hp : PassesOwn (model X.prog X.w) X.A X.env X.xe) (hc : X.calm = true) (hi : QJ X z O tg iter fs) (hg : QG X z O tg gs g) (hb : QSs X z O O body s O)
    (hs : ∀ x, foldedSetIterable iter X.env x = pure x := by intro _; rfl) : QS X z L O (.For tg iter body [] pos) (sFor g fs s) O := by
  refine ⟨PS.to (ps_for hp hc hi.pi hg.pg hb.ps hs) ?_⟩
  rintro Dn σ H ⟨c, W0, F0, H0, env, cp, ⟨W, A, F, p, h1, h2, h3, s0⟩, q⟩
  refine ⟨c, W, A, env, cp, F, p, (saft_e h1 s0 q).imp fun ds cp1 F1 H1 s1 e1 q J sj => ?_⟩
  have s01 := s0.trans (s1.weak h1)
  refine ⟨fun i m σ2 H2 => m = ds.length - i ∧ i ≤ ds.length ∧ ∃ env2 cp2, PreS X.kk z.ci O c W0 F1 H0 env2 cp2 σ2 H2 ∧ SAft X.kk z.E z.ci L O c W0 F0 H0 Dn (forGo g s (ds.drop i) env2 cp2), ⟨ds.length, by simp, Nat.zero_le _, env, cp1, ⟨W, A, F1, p.step s1 e1, h1, h2, h3, Same.refl _, s01.sub, s01.h, s01.w⟩, q⟩, ?_⟩
  rintro i m σ2 H2 ⟨rfl, hi, env2, cp2, ps2, q2⟩
  have ps2' := ps2
  obtain ⟨W2, A2, F2, p2, k1, k2, k3, t2⟩ := ps2
  by_cases hlt : i < ds.length
  · refine .inr ⟨sj.go i F2 H2 t2.f t2.sub hlt, fun σ3 H3 => i + 1 ≤ ds.length ∧ ∃ env2 cp2, PreS X.kk z.ci O c W0 F1 H0 env2 cp2 σ3 H3 ∧ SAft X.kk z.E z.ci L O c W0 F0 H0 Dn (forGo g s (ds.drop (i + 1)) env2 cp2), fun σ3 H3 h => ⟨ds.length - (i + 1), by omega, rfl, h⟩, fun x H3 hy => ?_⟩
    obtain ⟨d, hd⟩ : ∃ d, ds[i]? = some d := ⟨ds[i], by simp [hlt]⟩
    obtain ⟨F3, s3, c3, r3⟩ := sj.yld W2 i F2 H2 H3 x d t2.f p2.sit hd hy
    have hdrop : ds.drop i = d :: ds.drop (i + 1) := by
      rw [List.drop_eq_getElem_cons hlt]
      obtain ⟨h1, h2⟩ := List.getElem?_eq_some_iff.mp hd
      rw [h2]
    rw [hdrop, forGo] at q2
    have p3 := p2.step s3 (c3.trans p2.cup)
    have t3 := t2.trans (s3.weak k1)
    cases e4 : g d env2 with
    | none => simp only [e4] at q2; exact q2.elim
    | some env3 =>
      simp only [e4] at q2
      refine ⟨c, W2, A2, env2, cp2, F3, d, env3, p3, r3, e4, fun σ4 p4 _ => ⟨c, W0, F1, H0, env3, cp2, ⟨W2, A2, F3, p4, k1, k2, k3, t3⟩, ?_⟩⟩
      have q3 := q2
      generalize s env3 cp2 = r at q3
      have nxt : ∀ {env5 : Env} {cp5 : Cup}, SAft X.kk z.E z.ci L O c W0 F0 H0 Dn (forGo g s (ds.drop (i + 1)) env5 cp5) → ∀ σ' H', PreS X.kk z.ci O c W0 F1 H0 env5 cp5 σ' H' → i + 1 ≤ ds.length ∧ ∃ env2 cp2, PreS X.kk z.ci O c W0 F1 H0 env2 cp2 σ' H' ∧ SAft X.kk z.E z.ci L O c W0 F0 H0 Dn (forGo g s (ds.drop (i + 1)) env2 cp2) := fun h σ' H' p => ⟨hlt, _, _, p, h⟩
      cases r with
      | ok o cp5 =>
        cases o with
        | nx env5 => exact nxt q3
        | ct env5 => exact nxt q3
        | bk env5 => exact fun σ' H' p => q3 σ' H' (p.rebase s01.f)
        | rt d => exact fun F' H' v s => q3 F' H' v ⟨s01.f.trans s.f, s.sub, s.h, s.w⟩
      | err x cp5 => exact fun F' H' s => q3 F' H' ⟨s01.f.trans s.f, s.sub, s.h, s.w⟩
      | bad => exact q3
  · have e : i = ds.length := by omega
    subst e
    rw [List.drop_length] at q2
    exact .inl ⟨sj.stop F2 H2 t2.f t2.sub, q2 σ2 H2 (ps2'.rebase s01.f)⟩
/-! while -/
def whGo (fc : Ev) (body : Sv) : Nat → Env → Cup → Res Out
  | 0, _, _ => .bad
  | n + 1, env, cp => (fc env cp).bind fun b cp1 => match b with
    | .bool true => (body env cp1).bind fun o cp2 => match o with
      | .nx env2 => whGo fc body n env2 cp2
      | .ct env2 => whGo fc body n env2 cp2
      | .bk env2 => .ok (.nx env2) cp2
      | .rt d => .ok (.rt d) cp2
    | .bool false => .ok (.nx env) cp1
    | _ => .bad
def fuel : Nat := 1000000
def sWhile (fc : Ev) (body : Sv) : Sv := fun env cp => whGo fc body fuel env cp
theorem q_while {c : Expr} {body : List Stmt} {fc : Ev} {s : Sv} {pos : Pos} (hp : PassesOwn (model X.prog X.w) X.A X.env X.xe) (hc : QT X z O c fc) (hb : QSs X z O O body s O) : QS X z L O (.While c body [] pos) (sWhile fc s) O := by
  refine ⟨PS.to (ps_while hp hc.pt hb.ps) ?_⟩
  rintro Dn σ H ⟨c, W0, F0, H0, env, cp, ps, q⟩
  refine ⟨fun m σ2 H2 => ∃ env2 cp2, PreS X.kk z.ci O c W0 F0 H0 env2 cp2 σ2 H2 ∧ SAft X.kk z.E z.ci L O c W0 F0 H0 Dn (whGo fc s m env2 cp2), ⟨fuel, env, cp, ps, q⟩, ?_⟩
  rintro m σ2 H2 ⟨env2, cp2, ⟨W, A, F, p, h1, h2, h3, s0⟩, q2⟩
  cases m with
  | zero => exact q2.elim
  | succ m =>
    rw [whGo] at q2
    refine ⟨c, W, A, env2, cp2, F, p, (saft_e h1 s0 q2).imp fun d cp3 F3 H3 s3 e3 q3 b hb => ?_⟩
    subst hb
    have p3 := PreS.step p h1 h2 h3 s0 s3 e3
    cases b with
    | false => exact iteF (q3 σ2 H3 p3)
    | true =>
      refine iteT ⟨fun σ' H' => ∃ env2 cp2, PreS X.kk z.ci O c W0 F0 H0 env2 cp2 σ' H' ∧ SAft X.kk z.E z.ci L O c W0 F0 H0 Dn (whGo fc s m env2 cp2), fun σ' H' h => ⟨m, Nat.lt_succ_self m, h⟩, c, W0, F0, H0, env2, cp3, p3, ?_⟩
      have q4 : SAft X.kk z.E z.ci L O c W0 F0 H0 Dn ((s env2 cp3).bind fun o cp2 => match o with
        | .nx env2 => whGo fc s m env2 cp2
        | .ct env2 => whGo fc s m env2 cp2
        | .bk env2 => .ok (.nx env2) cp2
        | .rt d => .ok (.rt d) cp2) := q3
      generalize s env2 cp3 = r at q4
      cases r with
      | ok o cp5 =>
        cases o with
        | nx env5 => exact fun σ' H' p => ⟨_, _, p, q4⟩
        | ct env5 => exact fun σ' H' p => ⟨_, _, p, q4⟩
        | bk env5 => exact q4
        | rt d => exact q4
      | err x cp5 => exact q4
      | bad => exact q4
end
end MP
namespace MP
open PySem PySem.Spec PyProof.Rows L2

/-! ## statements that change an owned thing -/
section
variable {K : MpK} {ci : Option Nat} {O : List Nat} {c : Addr} {W W0 : Addr → Prop} {A : Nat → Option Addr} {env : Env} {cp : Cup} {F F0 H0 : Hp} {σ : L2.St} {H : Hp}
theorem Pre.mut (p : Pre K ci O c W A env cp F σ H) {i : Nat} {a : Addr} {o : HO} {d d0 : D} (hi : i ∈ O) (ha : A i = some a) (he : env[i]? = some (some d0)) (ho : OwnAt K F (upd H a o) a d) : Pre K ci O c W A (env.set i (some d)) cp F σ (upd H a o) where
  sub := fun b x e => by
    have : b ≠ a := fun z => by rw [z, p.wf a (p.aw i a hi ha)] at e; cases e
    rw [upd_ne this]; exact p.sub _ _ e
  cup := by
    obtain ⟨_, _, _, k4⟩ := p.ow i d0 a he hi ha
    rw [upd_ne k4.symm]; exact p.cup
  wc := p.wc
  wh := fun b hb => by
    by_cases hba : b = a
    · subst hba; exact ⟨_, upd_same⟩
    · rw [upd_ne hba]; exact p.wh b hb
  wf := p.wf
  sl := fun j e h1 h2 => by
    by_cases hj : i = j
    · subst hj
      rcases h2 with h2 | h2
      · exact absurd hi h2
      · rw [ha] at h2; cases h2
    · rw [List.getElem?_set_ne hj] at h1
      exact p.sl j e h1 h2
  ow := fun j e b h1 h2 h3 => by
    by_cases hj : i = j
    · subst hj
      rw [ha] at h3
      cases h3
      have hl : i < env.length := by
        obtain ⟨h, _⟩ := List.getElem?_eq_some_iff.mp he
        exact h
      rw [List.getElem?_set_self hl] at h1
      cases h1
      obtain ⟨k1, k2, k3, k4⟩ := p.ow i d0 a he hi ha
      exact ⟨k1, ho, k3, k4⟩
    · rw [List.getElem?_set_ne hj] at h1
      obtain ⟨k1, k2, k3, k4⟩ := p.ow j e b h1 h2 h3
      have nb : b ≠ a := fun z => hj (p.dj i j a hi h2 ha (z ▸ h3))
      exact ⟨k1, k2.mono (Same.refl _) (fun x h => by rw [upd_ne nb]; exact h), k3, k4⟩
  bx := fun j e h1 h2 h3 => by
    by_cases hj : i = j
    · subst hj
      rw [ha] at h3; cases h3
    · rw [List.getElem?_set_ne hj] at h1
      exact p.bx j e h1 h2 h3
  dj := p.dj
  aw := p.aw
  cs := fun j hj => by
    obtain ⟨h1, h2, h3⟩ := p.cs j hj
    have hn : i ≠ j := fun z => h2 (z ▸ hi)
    exact ⟨h1, h2, fun d' q => h3 d' (by rw [List.getElem?_set_ne hn] at q; exact q)⟩
  ln := by rw [List.length_set]; exact p.ln
theorem PreS.mut (p : Pre K ci O c W A env cp F σ H) (h1 : ∀ b, W0 b → W b) (h2 : ∀ (i : Nat) (a : Addr), i ∈ O → A i = some a → ¬ W0 a) (h3 : ∀ (i : Nat) (a : Addr), i ∈ O → A i = some a → H0 a = none) (s0 : Stp c W0 F0 H0 F H)
    {i : Nat} {a : Addr} {o : HO} {d d0 : D} (hi : i ∈ O) (ha : A i = some a) (he : env[i]? = some (some d0)) (ho : OwnAt K F (upd H a o) a d) : PreS K ci O c W0 F0 H0 (env.set i (some d)) cp σ (upd H a o) :=
  ⟨W, A, F, p.mut hi ha he ho, h1, h2, h3, s0.f, (p.mut hi ha he ho).sub, fun b x nc e => by
    have nb : b ≠ a := fun z => by rw [z, h3 i a hi ha] at e; cases e
    rw [upd_ne nb]; exact s0.h b x nc e, s0.w⟩
/-- the list of an owned slot -/
theorem Pre.own (p : Pre K ci O c W A env cp F σ H) {i : Nat} {d : D} (hi : i ∈ O) (he : env[i]? = some (some d)) (hb : isBox d = true) : ∃ a, A i = some a ∧ σ[i]? = some (some (.ref a)) ∧ OwnAt K F H a d ∧ W a ∧ a ≠ c := by
  cases ha : A i with
  | none => have := p.bx i d he hi ha; rw [hb] at this; cases this
  | some a =>
    obtain ⟨k1, k2, k3, k4⟩ := p.ow i d a he hi ha
    exact ⟨a, rfl, k1, k2, k3, k4⟩
end
section
variable {X : Cx} {z : Z} {L O O' : List Nat}
def sApp (i : Nat) (f : Ev) : Sv := fun env cp => match env[i]? with
  | some (some (.list ds)) => (f env cp).bind fun d cp1 => if decide (ds.length < 16777216) then .ok (.nx (env.set i (some (.list (ds ++ [d]))))) cp1 else .bad
  | _ => .bad
theorem q_app (i : Nat) {x : Str} {e : Expr} {f : Ev} {p apos cpos pos : Pos} (h : QE X z O e f) (hi : i ∈ O := by decide) (hN : X.N[i]? = some x := by rfl) (hv : Vis X.env.scope x := by first | exact Or.inl rfl | exact Or.inr (Or.inl rfl) | exact Or.inr (Or.inr rfl)) (hd : (x == ("__debug__" : Str)) = false := by decide)
    (hcd : (x == ("__classdict__" : Str)) = false := by decide) (hsw : swapsWith (.Call (.Attribute (.Name x p) "append" apos) [e] [] cpos) none pos.line X.env = pure false := by rfl) (hbase : attributeBase (.Name x p) "append" X.env (eval (.Name x p) X.env) = eval (.Name x p) X.env := by rfl)
    (hfew : ((backTo cpos (starEach [e] X.env)).all (fun x => !x.1) && (backToKw cpos (keywordEach [] X.env)).all (fun x => x.1.isSome) && decide ([e].length + ([] : List Keyword).length + (if ([] : List Keyword).isEmpty then 0 else 1) < 30)) = true := by rfl)
    (hline : (apos.endLine == cpos.line) = true := by rfl) (hs : starEach [e] X.env = (false, eval e X.env) :: starEach [] X.env := by rfl) (hplain : (backTo cpos (starEach [] X.env)).any (·.1) = false := by rfl) :
    QS X z L O (.Expr (.Call (.Attribute (.Name x p) "append" apos) [e] [] cpos) pos) (sApp i f) O := by
  refine ⟨PS.to (ps_expr (pe_bm PySem.F.plainAttrs_list PySem.F.slot_list_append PySem.F.type_list_append mt_append (pe_var hN hv hd hcd) (pa_cons h.pe pa_nil hs) hbase hfew hline hs hplain) hsw) ?_⟩
  rintro Dn σ H ⟨c, W0, F0, H0, env, cp, ⟨W, A, F, p, h1, h2, h3, s0⟩, q⟩
  unfold sApp at q
  split at q
  rotate_left
  · exact q.elim
  rename_i ds he
  obtain ⟨a, ha, hσ, ⟨vs, hv, hl, rv⟩, hW, hac⟩ := p.own hi he rfl
  refine ⟨.ref a, hσ, .inl ⟨rfl, vs, SqL.of hv⟩, c, W, A, env, cp, F, p, (saft_e h1 s0 q).imp fun d cp1 F1 H1 s1 e1 q1 v r => ?_⟩
  have p1 := p.step s1 e1
  have hv1 := s1.h a _ hac hv
  split at q1
  · rename_i hlen
    have hlen := of_decide_eq_true hlen
    refine ⟨a, vs, v, rfl, rfl, hv1, by rw [rv.length, sizeLine_eq]; exact hlen, ?_⟩
    refine q1 _ _ (PreS.mut p1 h1 h2 h3 (s0.trans (s1.weak h1)) hi ha he ⟨vs ++ [v], upd_same, ?_, (rv.mono s1.f).append (.cons r .nil)⟩)
    rw [List.length_append, rv.length, sizeLine_eq]
    show ds.length + 1 ≤ 16777216
    omega
  · exact q1.elim
/-! xs += ys -/
def sExt (i : Nat) (f : Ev) : Sv := fun env cp => match env[i]? with
  | some (some (.list ds)) => (f env cp).bind fun d cp1 => match d with
    | .list es => if okLen (ds.length + es.length) then .ok (.nx (env.set i (some (.list (ds ++ es))))) cp1 else .bad
    | _ => .bad
  | _ => .bad
theorem q_ext (i : Nat) {x : Str} {e : Expr} {f : Ev} {p pos : Pos} (hN' : X.N.Nodup) (h : QE X z O e f) (hi : i ∈ O := by decide) (hN : X.N[i]? = some x := by rfl) (hx : Loc X.env.scope x := by first | exact Or.inl rfl | exact Or.inr rfl)
    (hf : X.fn x = true ∨ X.env.scope.names.lookup x = some .local := by first | exact .inl rfl | exact .inr rfl) : QS X z L O (.AugAssign (.Name x p) .Add e pos) (sExt i f) O := by
  refine ⟨PS.to (ps_aug hN' hN hx h.pe (iop_ext : PIp X .Add rExt2) hf) ?_⟩
  rintro Dn σ H ⟨c, W0, F0, H0, env, cp, ⟨W, A, F, p, h1, h2, h3, s0⟩, q⟩
  unfold sExt at q
  split at q
  rotate_left
  · exact q.elim
  rename_i ds he
  obtain ⟨a, ha, hσ, ⟨vs, hv, hl, rv⟩, hW, hac⟩ := p.own hi he rfl
  refine ⟨.ref a, hσ, c, W, A, env, cp, F, p, (saft_e h1 s0 q).imp fun d cp1 F1 H1 s1 e1 q1 v r => ?_⟩
  have p1 := p.step s1 e1
  have hv1 := s1.h a _ hac hv
  cases d with
  | list es =>
    have q1 : SAft X.kk z.E z.ci L O c W0 F0 H0 Dn (if okLen (ds.length + es.length) then .ok (.nx (env.set i (some (.list (ds ++ es))))) cp1 else .bad) := q1
    split at q1
    · rename_i hlen
      cases r with
      | lst k1 k2 k3 =>
        refine ⟨a, _, vs, _, rfl, rfl, hv1, p1.sub _ _ k1, by rw [rv.length, k3.length]; exact okLen_le hlen, ?_⟩
        have e3 : σ.set i (some (V.ref a)) = σ := by
          apply List.ext_getElem?
          intro j
          by_cases hj : i = j
          · subst hj
            obtain ⟨hl, _⟩ := List.getElem?_eq_some_iff.mp hσ
            rw [List.getElem?_set_self hl, hσ]
          · rw [List.getElem?_set_ne hj]
        show Dn.nx (σ.set i (some (V.ref a))) _
        rw [e3]
        exact q1 _ _ (PreS.mut p1 h1 h2 h3 (s0.trans (s1.weak h1)) hi ha he ⟨vs ++ _, upd_same, by rw [List.length_append, rv.length, k3.length]; exact okLen_le hlen, (rv.mono s1.f).append k3⟩)
    · exact q1.elim
  | _ => exact q1.elim
/-! x += n -/
def sAugI (i : Nat) (g : Int → Int → Int) (f : Ev) : Sv := fun env cp => match env[i]? with
  | some (some (.int n)) => (f env cp).bind fun d cp1 => match d with
    | .int m => .ok (.nx (env.set i (some (.int (g n m))))) cp1
    | _ => .bad
  | _ => .bad
theorem q_augI (i : Nat) {op : Operator} {g : Int → Int → Int} {x : Str} {e : Expr} {f : Ev} {p pos : Pos} (hop : PIp X op (ipI g)) (hN' : X.N.Nodup) (h : QE X z O e f) (hi : i ∉ O := by decide) (hc : z.ci ≠ some i := by intro h; cases h) (hN : X.N[i]? = some x := by rfl) (hx : Loc X.env.scope x := by first | exact Or.inl rfl | exact Or.inr rfl)
    (hf : X.fn x = true ∨ X.env.scope.names.lookup x = some .local := by first | exact .inl rfl | exact .inr rfl) : QS X z L O (.AugAssign (.Name x p) op e pos) (sAugI i g f) O := by
  refine ⟨PS.to (ps_aug hN' hN hx h.pe hop hf) ?_⟩
  rintro Dn σ H ⟨c, W0, F0, H0, env, cp, ⟨W, A, F, p, h1, h2, h3, s0⟩, q⟩
  unfold sAugI at q
  split at q
  rotate_left
  · exact q.elim
  rename_i n he
  obtain ⟨v, hσ, rv⟩ := p.sl i _ he (.inl hi)
  cases rv
  refine ⟨_, hσ, c, W, A, env, cp, F, p, (saft_e h1 s0 q).imp fun d cp1 F1 H1 s1 e1 q1 v r => ?_⟩
  cases d with
  | int m =>
    cases r
    exact ⟨n, m, rfl, rfl, q1 _ _ ⟨W, A, F1, (p.step s1 e1).set hi hc (.int _), h1, h2, h3, s0.trans (s1.weak h1)⟩⟩
  | _ => exact q1.elim
/-! the cup's cells -/
def sCup (k : Bool) (f : Ev) : Sv := fun env cp => (f env cp).bind fun d cp1 => match d with
  | .int n => .ok (.nx env) (if k then (cp1.1, n) else (n, cp1.2))
  | _ => .bad
theorem q_cupS {i j : Nat} {n : Int} {y : Str} {e : Expr} {f : Ev} {p p2 p3 pos : Pos} (k : Bool) (h : QE X z O e f) (hnk : n = (if k then 1 else 0) := by rfl) (hci : z.ci = some i := by rfl) (hN : X.N[i]? = some y := by rfl)
    (hv : Vis X.env.scope y := by first | exact Or.inl rfl | exact Or.inr (Or.inl rfl) | exact Or.inr (Or.inr rfl)) (hd : (y == ("__debug__" : Str)) = false := by decide) (hcd : (y == ("__classdict__" : Str)) = false := by decide)
    (ha : ∀ v, assign (.Subscript (.Name y p) (.Constant (.int n) j p2) p3) X.env v = (do
      let ov ← holding [v] (eval (.Name y p) X.env)
      let iv ← holding [v, ov] (eval (.Constant (.int n) j p2) X.env)
      standAt p3
      holding [v, ov, iv] (setItem ov iv v)
      release [v, ov, iv] []) := by intro _; rfl)
    (hs : swapsWithSole [.Subscript (.Name y p) (.Constant (.int n) j p2) p3] e pos.line X.env = pure false := by rfl) (hw : swappedStores [.Subscript (.Name y p) (.Constant (.int n) j p2) p3] e X.env = pure none := by rfl)
    (h1 : (assignEach [.Subscript (.Name y p) (.Constant (.int n) j p2) p3] X.env).map (·.2) = [assign (.Subscript (.Name y p) (.Constant (.int n) j p2) p3) X.env] := by rfl) :
    QS X z L O (.Assign [.Subscript (.Name y p) (.Constant (.int n) j p2) p3] e pos) (sCup k f) O := by
  refine ⟨PS.to (ps_asg h.pe (pg_sub (pe_var hN hv hd hcd) pe_int set_list ha) hs hw h1) ?_⟩
  rintro Dn σ H ⟨c, W0, F0, H0, env, cp, ⟨W, A, F, p, h1, h2, h3, s0⟩, q⟩
  refine ⟨c, W, A, env, cp, F, p, (saft_e h1 s0 q).imp fun d cp1 F1 H1 s1 e1 q1 v r => ?_⟩
  have p1 := p.step s1 e1
  cases d with
  | int m =>
    cases r
    refine ⟨.ref c, (p1.cs i hci).1, c, _, n, (if k then 1 else 0), rfl, rfl, e1, by subst hnk; cases k <;> rfl, ?_⟩
    have s01 := s0.trans (s1.weak h1)
    have cup' : (upd H1 c (HO.lst ([V.int cp1.1, .int cp1.2].set (if k then 1 else 0) (.int m)))) c = some (cupV (if k then (cp1.1, m) else (m, cp1.2))) := by rw [upd_same]; cases k <;> rfl
    have st : Stp c W F1 H1 F1 (upd H1 c (HO.lst ([V.int cp1.1, .int cp1.2].set (if k then 1 else 0) (.int m)))) := ⟨Same.refl _, fun b x e => by
      have nb : b ≠ c := fun z => by rw [z, p1.wf c p1.wc] at e; cases e
      rw [upd_ne nb]; exact p1.sub _ _ e, fun b x nb e => by rw [upd_ne nb]; exact e, p1.wf⟩
    exact q1 σ _ ⟨W, A, F1, p1.step st cup', h1, h2, h3, s01.trans (st.weak h1)⟩
  | _ => exact q1.elim
/-! code that is not reached -/
theorem q_never {st : Stmt} : QS X z L O st (fun _ _ => .bad) O' := ⟨PS.to ps_never fun Dn σ H ⟨c, W0, F0, H0, env, cp, p, q⟩ => q⟩
/-! raise C('..') -/
def sRaise (e : Str) : Sv := fun _ cp => .err e cp
end

/-! ## a def -/
def env0 (uc : Bool) (n : Nat) (ds : List D) : Env := ((if uc then [none] else []) ++ ds.map some) ++ List.replicate (n - ((if uc then 1 else 0) + ds.length)) none
def mean (uc : Bool) (n : Nat) (s : Sv) : Mean := fun ds cp => (s (env0 uc n ds) cp).bind fun o cp1 => match o with
  | .rt d => .ok d cp1
  | .nx _ => .ok .none cp1
  | _ => .bad
abbrev ciOf (uc : Bool) : Option Nat := if uc then some 0 else none
section
variable {P : Program} {w : World} {K : PySem.W.Frag} {mg : Str → Option Value} {base : Heap}
abbrev cxD (P : Program) (w : World) (K : PySem.W.Frag) (mg : Str → Option Value) (base : Heap) (N : List Str) (x : Str) (st : Stmt) (f : Addr) (cdv : Value) (A : Around) (outer : List PySem.Env) (s : Shared) (H : Hp) (E : XK) : Cx := cxOf (L2.CX P w) P w K mg base N x (defScope st) f cdv A outer s H E
theorem zp_def {N : List Str} {x : Str} {st : Stmt} {f : Addr} {cdv : Value} {A : Around} {outer : List PySem.Env} {s : Shared} {H : Hp} {E : XK} {ci : Option Nat} : ZP (cxD P w K mg base N x st f cdv A outer s H E) ⟨Er mg E, ci⟩ :=
  ⟨E, passes_call (W := fun cls d _ H => E cls d H) (takes_of (E := E) rfl rfl rfl rfl) (fun _ _ _ _ h => h), fun _ _ h => h⟩
theorem po_def {N : List Str} {x : Str} {st : Stmt} {f : Addr} {cdv : Value} {A : Around} {outer : List PySem.Env} {s : Shared} {H : Hp} {E : XK} : PassesOwn (model P w) (cxD P w K mg base N x st f cdv A outer s H E).A (cxD P w K mg base N x st f cdv A outer s H E).env (cxD P w K mg base N x st f cdv A outer s H E).xe :=
  passes_of (X := cxD P w K mg base N x st f cdv A outer s H E) rfl
theorem fnv_mk {x : Str} {st : Stmt} {f : Addr} {fd : FuncData} {N ps : List Str} {k : Nat} {uc : Bool} {sv : Sv} {O' : List Nat} (F : Fun K x x st f fd) (S : FnScope N ps (defScope st)) (hm : mg x = some (.ref f)) (hb : Binds K fd ps []) (hN : ps.length ≤ N.length := by decide)
    (hbody : ∀ (cdv : Value) (A : Around) (outer : List PySem.Env) (s : Shared) (H : Hp) (E : XK), Room k (A.deeper (envOfC x (defScope st) s.heap.objs.size f cdv)) →
      QSs (cxD P w K mg base N x st f cdv A outer s H E) ⟨Er mg E, ciOf uc⟩ [] [] (defBody st) sv O') : FnV P w K mg base (k + 1) x ps uc (mean uc N.length sv) := by
  refine ⟨f, fd, F.okX S (fun vs H Q E h => h.1) (fun cdv A outer s H vs Q E hr h => ?_), hm, F.kp, hb⟩
  refine ⟨_, (hbody cdv A outer s H E hr).ps, ?_⟩
  obtain ⟨hn, c, W, Fz, cp, ds, vs', ev, st', ec, ra, q⟩ := h
  subst ev
  have hlen : (L2.start N ((if uc = true then [V.ref c] else []) ++ vs')).length = N.length := by
    unfold L2.start
    rw [List.length_append, List.length_map, List.length_replicate, hn]
    omega
  have hln : (env0 uc N.length ds).length = N.length := by
    unfold env0
    have h1 : ((if uc = true then [none] else []) ++ ds.map some : Env).length = ps.length := by
      rw [← hn, List.length_append, List.length_append, List.length_map, ra.length]
      cases uc <;> rfl
    rw [List.length_append, h1, List.length_replicate]
    have h2 : (if uc = true then 1 else 0) + ds.length = ps.length := by
      rw [← hn, List.length_append, ra.length]
      cases uc <;> rfl
    omega
  have key : ∀ (i : Nat) (d : D), (env0 uc N.length ds)[i]? = some (some d) → ∃ v, (L2.start N ((if uc = true then [V.ref c] else []) ++ vs'))[i]? = some (some v) ∧ Rp ⟨K, P, w⟩ Fz v d := by
    intro i d h
    unfold env0 at h
    unfold L2.start
    have rep : ∀ {n j : Nat}, (List.replicate n (none : Option D))[j]? ≠ some (some d) := fun {n j} z => by
      rw [List.getElem?_replicate] at z
      split at z <;> cases z
    cases uc with
    | false =>
      simp only [Bool.false_eq_true, if_false, List.nil_append] at h ⊢
      by_cases hi : i < ds.length
      · rw [List.getElem?_append_left (by simpa using hi), List.getElem?_map] at h
        rw [List.getElem?_append_left (by rw [List.length_map, ra.length]; exact hi), List.getElem?_map]
        cases e : ds[i]? with
        | none => rw [e] at h; cases h
        | some d' =>
          rw [e] at h
          cases h
          obtain ⟨v, h1, h2⟩ := ra.get e
          exact ⟨v, by rw [h1]; rfl, h2⟩
      · rw [List.getElem?_append_right (by simpa using hi)] at h
        exact absurd h rep
    | true =>
      simp only [if_true, List.cons_append, List.nil_append] at h ⊢
      cases i with
      | zero => simp at h
      | succ i =>
        rw [List.getElem?_cons_succ] at h
        rw [List.map_cons, List.cons_append, List.getElem?_cons_succ]
        by_cases hi : i < ds.length
        · rw [List.getElem?_append_left (by simpa using hi), List.getElem?_map] at h
          rw [List.getElem?_append_left (by rw [List.length_map, ra.length]; exact hi), List.getElem?_map]
          cases e : ds[i]? with
          | none => rw [e] at h; cases h
          | some d' =>
            rw [e] at h
            cases h
            obtain ⟨v, h1, h2⟩ := ra.get e
            exact ⟨v, by rw [h1]; rfl, h2⟩
        · rw [List.getElem?_append_right (by simpa using hi)] at h
          exact absurd h rep
  have pre : Pre ⟨K, P, w⟩ (ciOf uc) [] c W (fun _ => none) (env0 uc N.length ds) cp Fz (L2.start N ((if uc = true then [V.ref c] else []) ++ vs')) H :=
    ⟨st'.sub, ec, st'.wc, st'.wh, st'.wf, fun i d h _ => key i d h, fun i d a _ h => by simp at h, fun i d _ h => by simp at h, fun i j a h => by simp at h, fun i a h => by simp at h, fun i hi => by
      cases uc with
      | false => cases hi
      | true =>
        cases hi
        exact ⟨rfl, by simp, fun d h => by simp [env0] at h⟩, by rw [hln, hlen]⟩
  refine ⟨c, W, Fz, H, env0 uc N.length ds, cp, ⟨W, fun _ => none, Fz, pre, fun _ h => h, fun i a h => by simp at h, fun i a h => by simp at h, st'.refl⟩, ?_⟩
  unfold mean at q
  generalize sv (env0 uc N.length ds) cp = r at q
  cases r with
  | ok o cp1 =>
    cases o with
    | nx env' =>
      intro σ' H' ⟨W', A', F', p', k1, k2, k3, s⟩
      exact q F' H' s p'.cup _ .non
    | rt d => exact fun F' H' v s e r => q F' H' s e v r
    | bk env' => exact q.elim
    | ct env' => exact q.elim
  | err x cp1 => exact q
  | bad => exact q.elim
end
end MP
namespace MP
open PySem PySem.Spec PyProof.Rows L2

/-! ## sorted -/
def isTup1 : D → Bool
  | .tuple (_ :: _) => true
  | _ => false
def noTupN : D → Bool
  | .tuple _ => false
  | .none => false
  | _ => true
def srtOk (ds : List D) : Bool := ds.all (fun d => d.canLay0 && decide (d.depth ≤ 60)) && ds.all (fun d => ds.all (PySem.W.alike d)) && (ds.all isTup1 || ds.all noTupN)
abbrev srt (ds : List D) : List D := ds.mergeSort (PySem.W.dataLe false id)
def bSorted : List D → Option D
  | [.list ds] => if srtOk ds then some (.list (srt ds)) else none
  | _ => none
theorem srtOk_alike {ds : List D} (h : srtOk ds = true) : PySem.W.AllAlike ds ∧ PySem.W.Sortable ds ∧ ∀ d ∈ ds, d.canLay0 = true ∧ d.depth ≤ 60 := by
  unfold srtOk at h
  obtain ⟨h, h3⟩ := Bool.and_eq_true_iff.mp h
  obtain ⟨h1, h2⟩ := Bool.and_eq_true_iff.mp h
  refine ⟨fun d hd d' hd' => List.all_eq_true.mp (List.all_eq_true.mp h2 d hd) d' hd', ?_, fun d hd => ?_⟩
  · rcases Bool.or_eq_true_iff.mp h3 with h3 | h3
    · refine .inl fun d hd => ?_
      have := List.all_eq_true.mp h3 d hd
      unfold isTup1 at this
      split at this
      · exact ⟨_, _, rfl⟩
      · cases this
    · refine .inr fun d hd => ?_
      have := List.all_eq_true.mp h3 d hd
      unfold noTupN at this
      split at this
      · cases this
      · cases this
      · rename_i k1 k2
        exact ⟨k2, k1⟩
  · have := List.all_eq_true.mp h1 d hd
    obtain ⟨a, b⟩ := Bool.and_eq_true_iff.mp this
    exact ⟨a, of_decide_eq_true b⟩
def rSortD (K : MpK) : List V → Hp → VK → Prop := fun vs H Q => ∃ (a : Addr) (xs : List V) (ds : List D), vs = [V.ref a] ∧ H a = some (.lst xs) ∧ DpAll K H xs ds ∧ srtOk ds = true ∧
  ∀ p, H p = none → Q (.ref p) (upd H p (.lst (((xs.zip ds).mergeSort (PySem.W.dataLe false fun b => b.2)).map (·.1))))
theorem each_zip {h : Heap} {K : MpK} {H : Hp} {X : Cx} {pins : List (Addr × Obj)} {σ : L2.St} {s : Shared} (I : Inv X pins σ H s) : ∀ {us : List Value} {xs : List V} {ds : List D}, Vals xs us → DpAll X.kk H xs ds →
    PySem.W.EachIs (fun u (b : V × D) => RelV b.1 u) us (xs.zip ds) ∧ PySem.W.EachIs (fun u (b : V × D) => ∃ as, Reads s.heap u b.2 as) us (xs.zip ds)
  | _, _, _, .nil, .nil => ⟨.nil, .nil⟩
  | _, _, _, .cons r t, .cons d e => by
    obtain ⟨h1, h2⟩ := each_zip (h := h) (K := K) I t e
    obtain ⟨as, ra⟩ := Dp.reads I _ _ _ d r
    exact ⟨.cons r h1, .cons ⟨as, ra⟩ h2⟩
theorem vals_each : ∀ {us : List Value} {bs : List (V × D)}, PySem.W.EachIs (fun u (b : V × D) => RelV b.1 u) us bs → Vals (bs.map (·.1)) us
  | _, _, .nil => .nil
  | _, _, .cons r t => .cons r (vals_each t)
theorem DpAll_length {K : MpK} {H : Hp} : ∀ {xs : List V} {ds : List D}, DpAll K H xs ds → xs.length = ds.length
  | _, _, .nil => rfl
  | _, _, .cons _ t => by rw [List.length_cons, List.length_cons, DpAll_length t]
section
variable {X : Cx}
theorem cr_sortD (hu : X.A.units + 65 < cLine) : CallR X (.builtin "sorted") (rSortD X.kk) := by
  intro pins s σ H vs us Q I r h
  obtain ⟨a, xs, ds, rfl, hs, hd, hok, q⟩ := h
  obtain ⟨hal, hsk, hdep⟩ := srtOk_alike hok
  obtain ⟨its, rv, hl, hlen⟩ := I.list (SqL.of hs)
  rw [Vals.ref1 r]
  have e2 : (xs.zip ds).map (·.2) = ds := by
    rw [List.map_snd_zip]
    rw [DpAll_length hd]
    exact Nat.le_refl _
  obtain ⟨k1, k2⟩ := each_zip (h := s.heap) (K := X.kk) I rv hd
  have zl : (xs.zip ds).length = xs.length := by rw [List.length_zip, DpAll_length hd, Nat.min_self]
  refine PySem.W.sorted_data (bs := xs.zip ds) (enc := fun b => b.2) hl.isList k1 k2 (by rw [e2]; exact hal) (by rw [e2]; exact hsk) (by rw [zl]; exact hlen) (fun b hb => ?_) fun out ho eo => ?_
  · have : b.2 ∈ ds := by rw [← e2]; exact List.mem_map.mpr ⟨b, hb, rfl⟩
    have := (hdep _ this).2
    show X.A.units + 2 + b.2.depth < cLine
    omega
  · obtain ⟨ep, he'⟩ := PyProof.Rows.sortedAll_at s.heap its out.toArray
    have hlen2 : (((xs.zip ds).mergeSort (PySem.W.dataLe false fun b => b.2)).map (·.1)).length ≤ sizeLine := by
      rw [List.length_map, (List.mergeSort_perm _ _).length_eq, zl]; exact hlen
    exact ⟨.ref _, upd H (s.heap.objs.size + 1) (.lst (((xs.zip ds).mergeSort (PySem.W.dataLe false fun b => b.2)).map (·.1))), I.laid (t' := s.toks) (fun _ _ => PyProof.Rows.sortedAll_old) (Nat.le_succ _) ⟨hlen2, out, ep, vals_each eo, he'⟩, rfl, q _ (I.hok.fresh (Nat.le_succ _))⟩
theorem RpA.zipm {K : MpK} {F : Hp} : ∀ {bs : List (V × D)}, (∀ b ∈ bs, Rp K F b.1 b.2) → RpA K F (bs.map (·.1)) (bs.map (·.2))
  | [], _ => .nil
  | b :: bs, h => .cons (h b List.mem_cons_self) (RpA.zipm fun c hc => h c (List.mem_cons_of_mem _ hc))
theorem RpA.zip_mem {K : MpK} {F : Hp} : ∀ {xs : List V} {ds : List D}, RpA K F xs ds → ∀ b ∈ xs.zip ds, Rp K F b.1 b.2
  | _, _, .nil, b, hb => by simp at hb
  | _, _, .cons h t, b, hb => by
    rw [List.zip_cons_cons] at hb
    rcases List.mem_cons.mp hb with rfl | hb
    · exact h
    · exact RpA.zip_mem t b hb
theorem canLayAll_of {ds : List D} (h : ∀ d ∈ ds, d.canLay0 = true) : PyData.canLayAll0 ds = true := by
  induction ds with
  | nil => rfl
  | cons d ds ih => rw [PyData.canLayAll0, h d List.mem_cons_self, ih fun e he => h e (List.mem_cons_of_mem _ he)]; rfl
theorem cas_sorted (hu : X.A.units + 65 < cLine) : CaS X (.builtin "sorted") bSorted := by
  refine ⟨_, cr_sortD hu, fun c W F H xs ds d Q st r e q => ?_⟩
  match ds, e with
  | [.list ds], e =>
    have ro := r.one; clear r; obtain ⟨v, rfl, r⟩ := ro
    obtain ⟨a1, v1, rfl, h1, l1, r1⟩ := r.list st.sub
    obtain ⟨hk, rfl⟩ := if_some e
    obtain ⟨hal, hsk, hdep⟩ := srtOk_alike hk
    refine ⟨a1, v1, ds, rfl, h1, RpA.dp st.sub r1 (canLayAll_of fun d hd => (hdep d hd).1), hk, fun p hp => q _ _ _ (st.new hp) (st.keepc hp) (fr_new st hp ?_ ?_)⟩
    · rw [List.length_map, (List.mergeSort_perm _ _).length_eq, List.length_zip]
      exact Nat.le_trans (Nat.min_le_left _ _) l1
    · have key : RpA X.kk F (((v1.zip ds).mergeSort (PySem.W.dataLe false fun b => b.2)).map (·.1)) (((v1.zip ds).mergeSort (PySem.W.dataLe false fun b => b.2)).map (·.2)) :=
        RpA.zipm fun b hb => r1.zip_mem b ((List.mergeSort_perm _ _).mem_iff.mp hb)
      have e3 : ((v1.zip ds).mergeSort (PySem.W.dataLe false fun b => b.2)).map (·.2) = srt ds := by
        have := PySem.W.sort_maps (r := PySem.W.dataLe false fun b : V × D => b.2) (s := PySem.W.dataLe false id) (fun b : V × D => b.2) (l := v1.zip ds) (fun a _ b _ => rfl)
        rw [this, List.map_snd_zip (by rw [r1.length]; exact Nat.le_refl _)]
      rw [e3] at key
      exact key
/-! ## str(n), list(text), join -/
def bStr : List D → Option D
  | [.int i] => if decide (0 ≤ i) && decide (i < 1000000000000) then some (.str ⟨((Nat.toDigits 10 i.toNat).map Char.toNat).toArray⟩) else none
  | [.str x] => some (.str x)
  | _ => none
theorem num_str {i : Int} (h : 0 ≤ i) : (Str.ofString (toString i)) = ⟨((Nat.toDigits 10 i.toNat).map Char.toNat).toArray⟩ := by
  apply PySem.W.str_of_cps
  have : i = ((i.toNat : Nat) : Int) := by omega
  conv => lhs; rw [this]
  rw [PySem.W.KIN.signs_num]
theorem cas_str : CaS X (.type "str") bStr := by
  refine ⟨_, call_str_int.or SkE.call_str_str, fun c W F H xs ds d Q st r e q => ?_⟩
  match ds, e with
  | [.int i], e =>
    have ro := r.one; clear r; obtain ⟨v, rfl, r⟩ := ro
    obtain ⟨h, rfl⟩ := if_some e
    have r := r.flat rfl
    cases r
    obtain ⟨h0, h1⟩ := Bool.and_eq_true_iff.mp h
    have h0 := of_decide_eq_true h0
    have h1 := of_decide_eq_true h1
    refine .inl ⟨i, rfl, ?_, ?_⟩
    · by_cases hz : i.natAbs = 0
      · rw [hz]; decide
      · have : i.natAbs.log2 < 40 := (Nat.log2_lt hz).mpr (Nat.lt_of_lt_of_le (show i.natAbs < 1000000000000 by omega) (by decide))
        omega
    · show Q (.str (Str.ofString (toString i))) H
      have hl : (Str.ofString (toString i)).length ≤ sizeLine := int_text_fits10 (Nat.lt_of_lt_of_le (show i.natAbs < 1000000000000 by omega) (Nat.pow_le_pow_right (n := 10) (by decide) (show 12 ≤ 4300 by decide)))
      rw [num_str h0] at hl ⊢
      refine q F H _ st.refl rfl (fr_flat (.str _ ⟨?_, hl⟩))
      show (((Nat.toDigits 10 i.toNat).map Char.toNat).toArray).all (· < 0x110000) = true
      rw [Array.all_eq_true']
      intro x hx
      obtain ⟨ch, _, rfl⟩ := List.mem_map.mp (List.mem_toArray.mp hx)
      have := ch.valid
      have h2 : ch.toNat < 0x110000 := by
        rcases this with h | h
        · exact Nat.lt_trans h (by decide)
        · exact h.2
      exact decide_eq_true h2
  | [.str x], e =>
    have ro := r.one; clear r; obtain ⟨v, rfl, r⟩ := ro
    have r := r.flat rfl
    cases r with
    | str _ hx =>
    cases e
    exact .inr ⟨x, rfl, q F H _ st.refl rfl (fr_flat (.str _ hx))⟩
/-! list of a text -/
theorem call_listS (hc : X.calm = true) : CallR X (.type "list") (fun xs H Q => ∃ x : Str, xs = [.str x] ∧ x.length ≤ sizeLine ∧ ∀ p, H p = none → Q (.ref p) (upd H p (.lst (x.cps.toList.map fun c => V.str ⟨#[c]⟩)))) := by
  intro pins s σ H xs us Q I r h
  obtain ⟨x, rfl, hx, q⟩ := h
  obtain ⟨u, rfl, rx⟩ := vals1 r
  obtain ⟨t, rfl⟩ := rx
  refine PySem.call_list_str (I.ok.hd hc) x t (fun h' tk acc' c' kk hS hacc => ?_) hx
  have hv : Vals (x.cps.toList.map fun c => V.str ⟨#[c]⟩) acc'.toList := by
    obtain ⟨hsz, hat⟩ := hacc
    refine L2.vals_of_at (by rw [List.length_map, Array.length_toList, Array.length_toList, hsz]) fun j v u h1 h2 => ?_
    rw [Array.getElem?_toList] at h2
    obtain ⟨k, tk, hk, rfl⟩ := hat j u h2
    rw [List.getElem?_map, Array.getElem?_toList, hk] at h1
    cases h1
    exact ⟨tk, rfl⟩
  exact ⟨.ref _, _, I.laid (t' := tk) (o := .lst (x.cps.toList.map fun c => V.str ⟨#[c]⟩)) kk (Nat.le_refl _) ⟨by rw [List.length_map, Array.length_toList]; exact hx, acc'.toList, c', hv, hS⟩, rfl, q _ (I.hok.fresh (Nat.le_refl _))⟩
def bListAll : List D → Option D
  | [.str x] => some (.list (chars x))
  | ds => bList ds
theorem CaS.or2 {f : Value} {g h : List D → Option D} {k : List D → Option D} (a : CaS X f g) (b : CaS X f h) (e : ∀ ds d, k ds = some d → g ds = some d ∨ h ds = some d) : CaS X f k := by
  obtain ⟨r, hr, go⟩ := a
  obtain ⟨r', hr', go'⟩ := b
  refine ⟨_, hr.or hr', fun c W F H xs ds d Q st rp ee q => ?_⟩
  rcases e ds d ee with e1 | e1
  · exact .inl (go c W F H xs ds d Q st rp e1 q)
  · exact .inr (go' c W F H xs ds d Q st rp e1 q)
def bListS : List D → Option D
  | [.str x] => some (.list (chars x))
  | _ => none
theorem chars_rp {K : MpK} {F : Hp} : ∀ {l : List Nat}, (∀ c ∈ l, c < 0x110000) → RpA K F (l.map fun c => V.str ⟨#[c]⟩) (l.map fun c => PyData.str ⟨#[c]⟩)
  | [], _ => .nil
  | c :: l, h => .cons (.str _ ⟨by
      show (#[c]).all (· < 0x110000) = true
      simpa using h c List.mem_cons_self, one_le⟩) (chars_rp fun k hk => h k (List.mem_cons_of_mem _ hk))
theorem sOk_mem {x : Str} (h : sOk x) : ∀ c ∈ x.cps.toList, c < 0x110000 := fun c hc => by
  have := (Array.all_eq_true'.mp (show x.cps.all (· < 0x110000) = true from h.1)) c (by simpa using hc)
  simpa using this
theorem cas_listS (hc : X.calm = true) : CaS X (.type "list") bListAll := by
  refine CaS.or2 cas_list (h := bListS) ⟨_, call_listS hc, fun c W F H xs ds d Q st r e q => ?_⟩ fun ds d e => ?_
  · match ds, e with
    | [.str x], e =>
      have ro := r.one; clear r; obtain ⟨v, rfl, r⟩ := ro
      have r := r.flat rfl
      cases r with
      | str _ hx =>
      cases e
      exact ⟨x, rfl, hx.2, fun p hp => q _ _ _ (st.new hp) (st.keepc hp) (fr_new st hp (by rw [List.length_map, Array.length_toList]; exact hx.2) (chars_rp (sOk_mem hx)))⟩
  · unfold bListAll at e
    split at e
    · exact .inr e
    · exact .inl e
/-! join -/
def strsOf : List D → Option (List Str)
  | [] => some []
  | .str b :: r => (strsOf r).map (b :: ·)
  | _ => none
theorem strsOf_eq : ∀ {ds : List D} {bs : List Str}, strsOf ds = some bs → ds = bs.map .str
  | [], _, e => by cases e; rfl
  | .str b :: r, bs, e => by
    unfold strsOf at e
    cases e1 : strsOf r with
    | none => rw [e1] at e; cases e
    | some cs => rw [e1] at e; cases e; rw [strsOf_eq e1]; rfl
theorem RpA.strz {K : MpK} {F : Hp} {vs : List V} {bs : List Str} (r : RpA K F vs (bs.map PyData.str)) : vs = bs.map V.str ∧ ∀ b ∈ bs, sOk b := by
  induction bs generalizing vs with
  | nil =>
    have r' : RpA K F vs [] := r
    cases r'
    exact ⟨rfl, by simp⟩
  | cons b bs ih =>
    have r' : RpA K F vs (PyData.str b :: bs.map PyData.str) := r
    cases r' with
    | cons h r2 =>
      cases h with
      | str _ hb =>
      obtain ⟨h1, h2⟩ := ih r2
      exact ⟨by rw [h1, List.map_cons], fun c hc => (List.mem_cons.mp hc).elim (fun z => z ▸ hb) (h2 c)⟩
def joinS (a : Str) (ys : List Str) : Str := ⟨(TL.joinL a.cps.toList (ys.map fun y => y.cps.toList)).toArray⟩
theorem joinS_eq (a : Str) (ys : List Str) : Txt.join a ys = joinS a ys := by
  apply PySem.W.str_of_cps
  rw [TL.join_eq]
  exact TL.tl_join a ys
theorem joinLmem {S : List Nat} {c : Nat} : ∀ {ps : List (List Nat)}, c ∈ TL.joinL S ps → c ∈ S ∨ ∃ p ∈ ps, c ∈ p
  | [], h => by simp [TL.joinL] at h
  | [p], h => .inr ⟨p, by simp, h⟩
  | p :: q :: r, h => by
    have h : c ∈ p ++ (S ++ TL.joinL S (q :: r)) := h
    rcases List.mem_append.mp h with h | h
    · exact .inr ⟨p, by simp, h⟩
    · rcases List.mem_append.mp h with h | h
      · exact .inl h
      · rcases joinLmem h with h | ⟨p', hp, h⟩
        · exact .inl h
        · exact .inr ⟨p', List.mem_cons_of_mem _ hp, h⟩
theorem joinLlen {S : List Nat} : ∀ {ps : List (List Nat)}, (TL.joinL S ps).length ≤ (ps.map List.length).sum + ps.length * S.length
  | [] => by simp [TL.joinL]
  | [p] => by simp [TL.joinL]
  | p :: q :: r => by
    have ih := joinLlen (S := S) (ps := q :: r)
    show (p ++ (S ++ TL.joinL S (q :: r))).length ≤ _
    rw [List.length_append, List.length_append, List.map_cons, List.sum_cons, List.length_cons, Nat.succ_mul]
    omega
def dJoin : D → D → Option D
  | .str a, .list ds => (strsOf ds).bind fun ys => if okLen ((ys.map (·.length)).sum + ys.length * a.length) then some (.str (joinS a ys)) else none
  | .str a, .tuple ds => (strsOf ds).bind fun ys => if okLen ((ys.map (·.length)).sum + ys.length * a.length) then some (.str (joinS a ys)) else none
  | _, _ => none
theorem joinS_ok {a : Str} {ys : List Str} (ha : sOk a) (hy : ∀ y ∈ ys, sOk y) (hl : okLen ((ys.map (·.length)).sum + ys.length * a.length) = true) : sOk (joinS a ys) := by
  refine ⟨?_, ?_⟩
  · show ((TL.joinL a.cps.toList (ys.map fun y => y.cps.toList)).toArray).all (· < 0x110000) = true
    rw [Array.all_eq_true']
    intro x hx
    rcases joinLmem (List.mem_toArray.mp hx) with h | ⟨p, hp, h⟩
    · exact decide_eq_true (sOk_mem ha x h)
    · obtain ⟨y, hy', rfl⟩ := List.mem_map.mp hp
      exact decide_eq_true (sOk_mem (hy y hy') x h)
  · show ((TL.joinL a.cps.toList (ys.map fun y => y.cps.toList)).toArray).size ≤ sizeLine
    rw [List.size_toArray]
    refine Nat.le_trans joinLlen ?_
    have e : ((ys.map fun y => y.cps.toList).map List.length) = ys.map (·.length) := by
      rw [List.map_map]
      apply List.map_congr_left
      intro y _
      exact Array.length_toList
    rw [e, List.length_map, Array.length_toList]
    exact okLen_le hl
end
section
variable {X : Cx} {z : Z} {O : List Nat}
theorem q_join {a : Str} {j : Nat} {e : Expr} {g : Ev} {p0 apos pos : Pos} (he : QP X z O e g) (ha : sOk a := by exact ⟨by decide +kernel, by decide +kernel⟩) (hs : starEach [e] X.env = [(false, eval e X.env)] := by rfl) (hbase : attributeBase (.Constant (.str a) j p0) "join" X.env (eval (.Constant (.str a) j p0) X.env) = eval (.Constant (.str a) j p0) X.env := by rfl) (hline : (apos.endLine == pos.line) = true := by rfl) :
    QE X z O (.Call (.Attribute (.Constant (.str a) j p0) "join" apos) [e] [] pos) (eCa (fun ds => match ds with | [d] => dJoin (.str a) d | _ => none) (eCons g eNil)) := by
  refine ⟨PE.to (pe_join pe_str he.pe hs hbase hline) ?_⟩
  rintro σ H Q ⟨c, W, A, env, cp, F, p, q⟩
  refine ⟨⟨a, rfl⟩, c, W, A, env, cp, F, p, ?_⟩
  have q : Aft z.E c W F H ((g env cp).bind fun d cp1 => match dJoin (.str a) d with | some d => .ok d cp1 | none => .bad) fun d _ F' H' => ∀ v, Rp X.kk F' v d → Q v H' := by
    unfold eCa eCons eNil at q
    rw [Res.bind_assoc] at q
    exact q
  refine (Aft.bind q).imp fun d cp1 F1 H1 s1 e1 q1 v r => ?_
  have st := p.sit.step s1 e1
  have fin : ∀ (ds : List D), (dJoin (.str a) d = (strsOf ds).bind fun ys => if okLen ((ys.map (·.length)).sum + ys.length * a.length) then some (.str (joinS a ys)) else none) → ∃ ys, ds = ys.map PyData.str ∧ (ys.map (·.length)).sum + ys.length * a.length ≤ 16777216 ∧ ((∀ b ∈ ys, sOk b) → Q (.str (Txt.join a ys)) H1) := fun ds e2 => by
    cases e3 : strsOf ds with
    | none => rw [e3] at e2; simp only [e2] at q1; exact q1.elim
    | some ys =>
      rw [e3] at e2
      have e2 : dJoin (.str a) d = if okLen ((ys.map (·.length)).sum + ys.length * a.length) then some (.str (joinS a ys)) else none := e2
      by_cases hl : okLen ((ys.map (·.length)).sum + ys.length * a.length) = true
      · rw [if_pos hl] at e2
        simp only [e2] at q1
        exact ⟨ys, strsOf_eq e3, of_decide_eq_true hl, fun hy => by rw [joinS_eq]; exact q1 F1 H1 st.refl e1 _ (.str _ (joinS_ok ha hy hl))⟩
      · rw [if_neg hl] at e2
        simp only [e2] at q1
        exact q1.elim
  cases d with
  | list ds =>
    obtain ⟨ys, rfl, h1, h2⟩ := fin ds rfl
    obtain ⟨a1, v1, rfl, k1, l1, r1⟩ := r.list st.sub
    obtain ⟨rfl, hy⟩ := r1.strz
    exact ⟨a, a1, ys, rfl, rfl, .inl (SqL.of k1), h1, h2 hy⟩
  | tuple ds =>
    obtain ⟨ys, rfl, h1, h2⟩ := fin ds rfl
    obtain ⟨a1, v1, rfl, k1, l1, r1⟩ := (r.flat rfl).tupI
    obtain ⟨rfl, hy⟩ := r1.strz
    exact ⟨a, a1, ys, rfl, rfl, .inr (SqT_same st.sub k1), h1, h2 hy⟩
  | _ => exact q1.elim
end
end MP
namespace PySem
/-- enumerate(v), whatever v is walked by -/
theorem mp_enum_new {v : Value} {o : Obj} {H : Heap → Prop} (B : Begins v o H) : Meets (Builtin.«enumerate.__new__» ⟨[.type "enumerate", v], []⟩) (fun _ R s => H s.heap ∧
      R (.ok (.ret (.ref (s.heap.push o).objs.size))) { s with heap := (s.heap.push o).push { cls := .type "enumerate", data := .fields #[.none, .bool false, .ref s.heap.objs.size, rawInt 0, .none, .none] } }) :=
  .of_wp fun prog w A R s q0 => by
    obtain ⟨h0, gg, dd, tk, os⟩ := s; obtain ⟨q1, q2⟩ := q0
    have hsub := sub_enumerate
    have it1 : ∀ {A' : Around} {E : Value → Shared → Prop} {Q : Value → Shared → Prop}, Q (.ref h0.objs.size) ⟨h0.push o, gg, dd, tk, os⟩ → wpAny (model prog w) A' (pyIter v) Q E ⟨h0, gg, dd, tk, os⟩ := fun q => B.iter prog w _ _ ⟨h0, gg, dd, tk, os⟩ _ q1 q
    wp_walk using it1
    refine wpAny_stack_any fun st => wpAny_pure ?_
    split
    · rename_i cc _ _ _ _ _
      cases (cc == Value.type "enumerate") <;> (wp_walk using it1; exact ⟨_, rfl, q2⟩)
    · wp_walk using it1
      exact ⟨_, rfl, q2⟩
theorem mp_call_enum {prog : Program} {w : World} {A : Around} {E : Value → Shared → Prop} {s : Shared} {v : Value} {o : Obj} {H : Heap → Prop} {Q : Value → Shared → Prop} (B : Begins v o H) (h1 : H s.heap)
    (h : ∀ h', IsEnum h' (s.heap.objs.size + 1) s.heap.objs.size 0 .none → h'.get? s.heap.objs.size = some o → (∀ b u, s.heap.get? b = some u → h'.get? b = some u) → Q (.ref (s.heap.objs.size + 1)) { s with heap := h' }) :
    wpAny (model prog w) A (call (.type "enumerate") [v]) Q E s := by
  refine callType_new F.called_enumerate (by decide) (F.typeCall_enumerate_1 _) (F.newCall_enumerate_1 _) (fun obj => F.args_object_init_2 obj _) F.entry_enumerate_new (mp_enum_new B) ⟨h1, ?_⟩
  have hz : (s.heap.push o).objs.size = s.heap.objs.size + 1 := Heap.size_push ..
  show _ ∧ _
  rw [hz]
  have he : IsEnum ((s.heap.push o).push { cls := .type "enumerate", data := .fields #[.none, .bool false, .ref s.heap.objs.size, rawInt 0, .none, .none] }) (s.heap.objs.size + 1) s.heap.objs.size 0 .none := by
    have := Heap.get?_push_size (s.heap.push o) (o := { cls := .type "enumerate", data := .fields #[.none, .bool false, .ref s.heap.objs.size, rawInt 0, .none, .none] }) rfl
    rw [hz] at this
    exact this
  exact ⟨⟨_, he, rfl⟩, h _ he (Heap.get?_push_of_some _ (Heap.get?_push_size _ B.free)) fun b u x => Heap.get?_push_of_some _ (Heap.get?_push_of_some _ x)⟩
end PySem
namespace MP
open PySem PySem.Spec PyProof.Rows L2

/-- the tuple at a, its items in new pairs -/
def IteT (K : PySem.W.Frag) (a : Addr) : It :=
  ⟨fun i H => ∃ (xs : List V) (x : V), SqT K H a xs ∧ xs[i]? = some x, fun i H v H' => ∃ T x, v = .ref T ∧ H T = none ∧ H' = upd H T (.tup [.int (i : Nat), x]) ∧ ∀ xs, SqT K H a xs → xs[i]? = some x, fun i H => ∃ xs : List V, SqT K H a xs ∧ xs.length = i⟩
theorem turn_enumT {P : Program} {w : World} {K : PySem.W.Frag} {elts : List Expr} {kk : Nat} {tpos : Pos} (a e it : Addr) :
    Turn P w K (.Tuple elts kk tpos) (IteT K a) [e, it] e (fun i h => (∃ old, IsEnum h e it ((i : Nat) : Int) old) ∧ h.IsTupleIter it a i ∧ e ≠ it ∧ e ≠ a ∧ a ≠ it) where
  mem := by simp
  obj := fun i h st b hb => by
    obtain ⟨⟨old, he⟩, ⟨o, ho, hc, hd⟩, _⟩ := st
    rcases (show b = e ∨ b = it by simpa using hb) with z | z
    · rw [z]; exact ⟨_, he, fun v q => nomatch q⟩
    · rw [z]; exact ⟨o, ho, fun v q => by rw [hd] at q; cases q⟩
  keep := fun i h h' st k => let ⟨⟨old, he⟩, hi, hne⟩ := st; ⟨⟨old, k e (by simp) _ he⟩, hi.at fun o q => k it (by simp) o q, hne⟩
  item := by
    intro X hP hw hK hc i pins s σ H E I hf st hg
    subst hP hw hK
    obtain ⟨⟨old, he⟩, hit, hne, hea, hai⟩ := st
    obtain ⟨xs, x, hq, hx⟩ := hg
    obtain ⟨its, rv, p, hz⟩ := I.tuple hq
    obtain ⟨u, hu, ru⟩ := rv.get hx
    have hel : e < s.heap.objs.size := Heap.lt_size he
    have hil : it < s.heap.objs.size := by obtain ⟨_, q, _⟩ := hit; exact Heap.lt_size q
    have hlt : i < its.toArray.size := by
      have := (List.getElem?_eq_some_iff.mp hu).1
      simpa using this
    refine wpAny_pyNext_enum_itemC (c := ((i : Nat) : Int)) (old := old) (Draws.tuple (prog := X.prog) (w := X.w) (A := X.A.in1) (I.ok.hd hc) it a hai its.toArray) he ⟨hit, p⟩ hlt hne (by simp [hne, hea]) fun y h' tk hP ho hit' hT hsz hk => ?_
    obtain rfl : y = u := by
      have hP : its.toArray[i]? = some y := hP
      rw [List.getElem?_toArray, hu] at hP
      exact (Option.some.inj hP).symm
    refine ⟨_, rfl, wpAny_letOwnedTupleGo_enum (s := { s with heap := h', toks := tk + 1 }) ho fun h'' he' sb => ?_⟩
    have hT2 : h''.get? s.heap.objs.size = some { cls := .type "tuple", data := .seq #[.int i tk, y] } := (sb.2 _ (Nat.ne_of_gt hel)).trans hT
    have new : ObjOk X.prog X.w (upd H s.heap.objs.size (.tup [.int (i : Nat), x])) h'' s.heap.objs.size (.tup [.int (i : Nat), x]) :=
      ⟨by show 2 ≤ sizeLine; decide, [.int i tk, y], .cons ⟨_, rfl⟩ (.cons ru .nil), ⟨_, hT2, rfl, _, rfl⟩⟩
    have I1 : Inv X pins σ (upd H s.heap.objs.size (.tup [.int (i : Nat), x])) { s with heap := h'', toks := tk + 1 } :=
      I.turnedNew (ch := [e, it]) (fun b ob hb q => (sb.2 b (fun z => hb (by simp [z]))).trans (hk b ob (fun z => hb (by simp [z])) (fun z => hb (by simp [z])) q)) hf (Nat.le_refl _) new
    refine ⟨.ref s.heap.objs.size, _, I1, rfl, ⟨_, x, rfl, I.hok.fresh (Nat.le_refl _), rfl, fun ys hy => by rw [I.tuple_inj hy hq]; exact hx⟩, ⟨⟨y, ?_⟩, hit'.1.at fun o q => (sb.2 it (Ne.symm hne)).trans q, hne, hea, hai⟩, fun b hb => ?_⟩
    · rw [show ((i + 1 : Nat) : Int) = (i : Int) + 1 by omega]
      exact he'
    · have hb' : b < s.heap.objs.size := by
        rcases (show b = e ∨ b = it by simpa using hb) with z | z
        · rw [z]; exact hel
        · rw [z]; exact hil
      rw [upd_ne (Nat.ne_of_lt hb')]
      exact (hf b hb).1
  done := by
    intro X hP hw hK hc i pins s σ H E I hf st hg
    subst hP hw hK
    obtain ⟨⟨old, he⟩, hit, hne, hea, hai⟩ := st
    obtain ⟨xs, hq, hx⟩ := hg
    obtain ⟨its, rv, p, hz⟩ := I.tuple hq
    obtain ⟨f0, f1, f2, f3, f4, f5⟩ := hf it (by simp)
    have hl := rv.length
    obtain rfl : i = its.toArray.size := by
      rw [List.size_toArray, ← hl]
      exact hx.symm
    exact wpAny_pyNext_enum_endD (Draws.tuple (prog := X.prog) (w := X.w) (A := X.A.in1) (I.ok.hd hc) it a hai its.toArray) he ⟨hit, p⟩ fun h' eb => ⟨rfl, I.turned (t' := s.toks) (fun b o hb q => eb b o hb q) f0 f1 f3 f4 f5⟩
  self := fun A i s Q E st h => let ⟨⟨_, he⟩, _⟩ := st; wpAny_pyIter_enum he h
def iEnumT (K : PySem.W.Frag) (ta : TA) : TI := fun σ H R => ta σ H fun vs H1 => ∃ a xs, vs = [.ref a] ∧ SqT K H1 a xs ∧ R (IteT K a) H1
theorem pi_enumT {X : Cx} {e : Expr} {ta : TA} {p pos tpos : Pos} {elts : List Expr} {kk : Nat} (hg : Gl X "enumerate") (hm : X.mg "enumerate" = none) (ha : PA X [e] ta) (hs : starEach [e] X.env = [(false, eval e X.env)] := by rfl) :
    PI X (.Tuple elts kk tpos) (.Call (.Name "enumerate" p) [e] [] pos) (iEnumT X.kk ta) := by
  refine ⟨fun pins s σ H R I h => Call_ (ld_blt I hg hm boot_enumerate (PyProof.Rows.callWith_type1 (thn (ha.run pos pins s σ H _ I h) fun us s1 ⟨vs, H1, I1, r1, q1⟩ => ?_) hs rfl))⟩
  obtain ⟨a, xs, ex, hq, q⟩ := q1
  subst ex
  cases r1 with
  | cons r rr =>
    cases rr
    cases r
    obtain ⟨its, rv, p', hz⟩ := I1.tuple hq
    refine mp_call_enum (begins_tuple a its.toArray) p' fun h' he hit hk => wpAny_pyIter_enum he ?_
    have I2 : Inv X pins σ H1 { s1 with heap := h' } := I1.kept (t' := s1.toks) hk
    have hal : a < s1.heap.objs.size := p'.lt
    have hiT : h'.IsTupleIter s1.heap.objs.size a 0 := ⟨_, hit, rfl, rfl⟩
    refine ⟨s1.heap.objs.size + 1, [s1.heap.objs.size + 1, s1.heap.objs.size], _, _, H1, rfl, I2, turn_enumT a (s1.heap.objs.size + 1) s1.heap.objs.size, ⟨⟨.none, he⟩, hiT, Nat.succ_ne_self _, Nat.ne_of_gt (Nat.lt_succ_of_lt hal), Nat.ne_of_lt hal⟩, fun b hb => ?_, q⟩
    have hle : s1.heap.objs.size ≤ b := by
      rcases (show b = s1.heap.objs.size + 1 ∨ b = s1.heap.objs.size by simpa using hb) with z | z
      · rw [z]; exact Nat.le_add_right _ _
      · rw [z]; exact Nat.le_refl _
    exact I1.fpOk hle (I1.hok.fresh hle)
/-- a new pair -/
theorem pair_yld {K : MpK} {c : Addr} {W2 : Addr → Prop} {F2 H2 : Hp} {T : Addr} {x y : V} {dx dy : D} (st : Sit c W2 F2 H2) (hT : H2 T = none) (rx : Rp K F2 x dx) (ry : Rp K F2 y dy) :
    ∃ F3, Stp c W2 F2 H2 F3 (upd H2 T (.tup [x, y])) ∧ (upd H2 T (.tup [x, y])) c = H2 c ∧ Rp K F3 (.ref T) (.tuple [dx, dy]) :=
  ⟨_, st.newF hT, st.keepc hT, .tup (.inl (.inl upd_same)) (by show 2 ≤ sizeLine; decide) (.cons (rx.mono (st.newF (o := .tup [x, y]) hT).f) (.cons (ry.mono (st.newF (o := .tup [x, y]) hT).f) .nil))⟩
def enumL (ds : List D) : List D := ds.mapIdx fun i d => .tuple [.int (i : Int), d]
def eEnum (f : Ev) : Evs := fun env cp => (f env cp).bind fun d cp1 => match d with
  | .list ds => .ok (enumL ds) cp1
  | .tuple ds => .ok (enumL ds) cp1
  | _ => .bad
theorem enumL_get {ds : List D} {i : Nat} {d : D} (h : (enumL ds)[i]? = some d) : ∃ e, ds[i]? = some e ∧ d = .tuple [.int (i : Int), e] := by
  unfold enumL at h
  rw [List.getElem?_mapIdx] at h
  cases e : ds[i]? with
  | none => rw [e] at h; cases h
  | some x => rw [e] at h; cases h; exact ⟨x, rfl, rfl⟩
theorem enumL_len (ds : List D) : (enumL ds).length = ds.length := List.length_mapIdx
section
variable {X : Cx} {z : Z} {O : List Nat}
theorem qj_enum {e : Expr} {f : Ev} {p pos tpos : Pos} {elts : List Expr} {kk : Nat} (h : QE X z O e f) (hm : X.mg "enumerate" = none) (hg : Gl X "enumerate" := by rfl) (hs : starEach [e] X.env = [(false, eval e X.env)] := by rfl) :
    QJ X z O (.Tuple elts kk tpos) (.Call (.Name "enumerate" p) [e] [] pos) (eEnum f) := ⟨PI.to (PI.or (pi_enum hg hm (pa_cons h.pe pa_nil (by rw [hs]; rfl)) hs) (pi_enumT hg hm (pa_cons h.pe pa_nil (by rw [hs]; rfl)) hs)) fun σ H R ⟨c, W, A, env, cp, F, p, q⟩ => by
  unfold eEnum at q
  cases e1 : f env cp with
  | bad => rw [e1] at q; exact q.elim
  | err x cp1 =>
    rw [e1] at q
    exact .inl ⟨c, W, A, env, cp, F, p, by rw [e1]; exact q⟩
  | ok d cp1 =>
    rw [e1, Res.bind_ok] at q
    cases d with
    | list ds =>
      refine .inl ⟨c, W, A, env, cp, F, p, ?_⟩
      rw [e1]
      intro F1 H1 s1 c1 v r
      cases r with
      | @lst a vs _ h1 l r1 =>
      refine ⟨a, vs, rfl, SqL.of (s1.sub _ _ h1), q F1 H1 s1 c1 _ ⟨by rw [enumL_len, ← r1.length]; exact l, fun i F2 H2 k1 k2 hi => ?_, fun F2 H2 k1 k2 => ?_, fun W2 i F2 H2 H3 v d k1 st hd y => ?_⟩⟩
      · rw [enumL_len, ← r1.length] at hi
        exact ⟨vs, vs[i], SqL.of (k2 _ _ (k1 _ _ h1)), by simp [hi]⟩
      · exact ⟨vs, SqL.of (k2 _ _ (k1 _ _ h1)), by rw [enumL_len, r1.length]; exact Nat.le_refl _⟩
      · obtain ⟨T, x, rfl, hT, rfl, hx⟩ := y
        obtain ⟨e, he, rfl⟩ := enumL_get hd
        obtain ⟨v', hv, rv⟩ := r1.get he
        have := hx vs (SqL.of (st.sub _ _ (k1 _ _ h1)))
        rw [hv] at this
        cases this
        exact pair_yld st hT (.int _) (rv.mono k1)
    | tuple ds =>
      refine .inr ⟨c, W, A, env, cp, F, p, ?_⟩
      rw [e1]
      intro F1 H1 s1 c1 v r
      obtain ⟨a, vs, rfl, h1, l, r1⟩ := r.tupI
      refine ⟨a, vs, rfl, SqT_same s1.sub h1, q F1 H1 s1 c1 _ ⟨by rw [enumL_len, ← r1.length]; exact l, fun i F2 H2 k1 k2 hi => ?_, fun F2 H2 k1 k2 => ?_, fun W2 i F2 H2 H3 v d k1 st hd y => ?_⟩⟩
      · rw [enumL_len, ← r1.length] at hi
        exact ⟨vs, vs[i], SqT_same (k1.trans k2) h1, by simp [hi]⟩
      · exact ⟨vs, SqT_same (k1.trans k2) h1, by rw [enumL_len, r1.length]⟩
      · obtain ⟨T, x, rfl, hT, rfl, hx⟩ := y
        obtain ⟨e, he, rfl⟩ := enumL_get hd
        obtain ⟨v', hv, rv⟩ := r1.get he
        have := hx vs (SqT_same (k1.trans st.sub) h1)
        rw [hv] at this
        cases this
        exact pair_yld st hT (.int _) (rv.mono k1)
    | _ => exact q.elim⟩
/-! zip of two lists, of two tuples -/
def zipL (xs ys : List D) : List D := (xs.zip ys).map fun p => .tuple [p.1, p.2]
def eZip (f g : Ev) : Evs := fun env cp => (f env cp).bind fun a cp1 => (g env cp1).bind fun b cp2 => match a, b with
  | .list xs, .list ys => .ok (zipL xs ys) cp2
  | .tuple xs, .tuple ys => .ok (zipL xs ys) cp2
  | _, _ => .bad
theorem zipL_get {xs ys : List D} {i : Nat} {d : D} (h : (zipL xs ys)[i]? = some d) : ∃ a b, xs[i]? = some a ∧ ys[i]? = some b ∧ d = .tuple [a, b] := by
  unfold zipL at h
  rw [List.getElem?_map] at h
  cases e : (xs.zip ys)[i]? with
  | none => rw [e] at h; cases h
  | some p =>
    rw [e] at h
    cases h
    obtain ⟨h1, h2⟩ := List.getElem?_zip_eq_some.mp e
    exact ⟨_, _, h1, h2, rfl⟩
theorem zipL_len (xs ys : List D) : (zipL xs ys).length = min xs.length ys.length := by
  unfold zipL
  rw [List.length_map, List.length_zip]
theorem qj_zip {e e2 : Expr} {f g : Ev} {p pos tpos : Pos} {elts : List Expr} {kk : Nat} (h : QE X z O e f) (h2 : QE X z O e2 g) (hm : X.mg "zip" = none) (hg : Gl X "zip" := by rfl)
    (hs : starEach [e, e2] X.env = (false, eval e X.env) :: starEach [e2] X.env := by rfl) (hs2 : starEach [e2] X.env = (false, eval e2 X.env) :: starEach [] X.env := by rfl) (hpl : (backTo pos (starEach [e2] X.env)).any (·.1) = false := by rfl) :
    QJ X z O (.Tuple elts kk tpos) (.Call (.Name "zip" p) [e, e2] [] pos) (eZip f g) := ⟨PI.to (RZ.pi_zipA hg hm (pa_cons h.pe (pa_cons h2.pe pa_nil hs2) hs) hs hpl) fun σ H R ⟨c, W, A, env, cp, F, p, q⟩ => by
  refine ⟨c, W, A, env, cp, F, p, (Aft.bind q).imp fun a cp1 F1 H1 s1 e1 q1 v1 r1 => ⟨c, W, A, env, cp1, F1, p.step s1 e1, (Aft.bind q1).imp fun b cp2 F2 H2 s2 e2 q2 v2 r2 => ?_⟩⟩
  have r1 := r1.mono s2.f
  cases a with
  | list xs =>
    cases b with
    | list ys =>
      cases r1 with
      | @lst a vs _ h1 l1 k1 =>
      cases r2 with
      | @lst b ws _ h2 l2 k2 =>
      refine ⟨a, b, vs, ws, rfl, .inl ⟨SqL.of (s2.sub _ _ h1), SqL.of (s2.sub _ _ h2), q2 F2 H2 s2.sitStep e2 _ ⟨by rw [zipL_len, ← k1.length]; exact Nat.le_trans (Nat.min_le_left _ _) l1, fun i F3 H3 t1 t2 hi => ?_, fun F3 H3 t1 t2 => ?_, fun W2 i F3 H3 H4 v d t1 st hd y => ?_⟩⟩⟩
      · rw [zipL_len, ← k1.length, ← k2.length] at hi
        exact ⟨vs, ws, vs[i]'(by omega), ws[i]'(by omega), SqL.of (t2 _ _ (t1 _ _ h1)), SqL.of (t2 _ _ (t1 _ _ h2)), by simp, by simp⟩
      · exact ⟨vs, ws, SqL.of (t2 _ _ (t1 _ _ h1)), SqL.of (t2 _ _ (t1 _ _ h2)), by rw [zipL_len, k1.length, k2.length]; omega⟩
      · obtain ⟨T, x, y, rfl, hT, rfl, hx, hy⟩ := y
        obtain ⟨dx, dy, hdx, hdy, rfl⟩ := zipL_get hd
        obtain ⟨v', hv, rv⟩ := k1.get hdx
        obtain ⟨w', hw, rw'⟩ := k2.get hdy
        have ex := hx vs (SqL.of (st.sub _ _ (t1 _ _ h1)))
        have ey := hy ws (SqL.of (st.sub _ _ (t1 _ _ h2)))
        rw [hv] at ex
        rw [hw] at ey
        cases ex
        cases ey
        exact pair_yld st hT (rv.mono t1) (rw'.mono t1)
    | _ => exact q2.elim
  | tuple xs =>
    cases b with
    | tuple ys =>
      obtain ⟨a, vs, rfl, h1, l1, k1⟩ := r1.tupI
      obtain ⟨b, ws, rfl, h2, l2, k2⟩ := r2.tupI
      refine ⟨a, b, vs, ws, rfl, .inr ⟨SqT_same s2.sub h1, SqT_same s2.sub h2, q2 F2 H2 s2.sitStep e2 _ ⟨by rw [zipL_len, ← k1.length]; exact Nat.le_trans (Nat.min_le_left _ _) l1, fun i F3 H3 t1 t2 hi => ?_, fun F3 H3 t1 t2 => ?_, fun W2 i F3 H3 H4 v d t1 st hd y => ?_⟩⟩⟩
      · rw [zipL_len, ← k1.length, ← k2.length] at hi
        exact ⟨vs, ws, vs[i]'(by omega), ws[i]'(by omega), SqT_same (t1.trans t2) h1, SqT_same (t1.trans t2) h2, by simp, by simp⟩
      · exact ⟨vs, ws, SqT_same (t1.trans t2) h1, SqT_same (t1.trans t2) h2, by rw [zipL_len, k1.length, k2.length]; omega⟩
      · obtain ⟨T, x, y, rfl, hT, rfl, hx, hy⟩ := y
        obtain ⟨dx, dy, hdx, hdy, rfl⟩ := zipL_get hd
        obtain ⟨v', hv, rv⟩ := k1.get hdx
        obtain ⟨w', hw, rw'⟩ := k2.get hdy
        have ex := hx vs (SqT_same (t1.trans st.sub) h1)
        have ey := hy ws (SqT_same (t1.trans st.sub) h2)
        rw [hv] at ex
        rw [hw] at ey
        cases ex
        cases ey
        exact pair_yld st hT (rv.mono t1) (rw'.mono t1)
    | _ => exact q2.elim
  | _ => exact q2.elim⟩
end
end MP
namespace MP
open PySem PySem.Spec PyProof.Rows L2

/-! ## the law's cup, the law's own def -/
/-- the draws' state, of the script -/
def cup0 (c1 m a q r : Int) (ns : List Int) : Cup :=
  let n : Int := ns.headD 0
  let cell := if n < 0 then -n else n
  (if 10 ^ 18 ≤ cell then cell / c1 else 0, (cell * m + a) % q + r)
def spCup (K : PySem.W.Frag) (cu : List Int → Cup) : Sp := fun vs H Q _ => ∃ (a : Addr) (ns : List Int), vs = [.ref a] ∧ SqL K H a (ns.map V.int) ∧ ns.length ≤ 63 ∧ ∀ H' p, Same H H' → H p = none → H' p = some (cupV (cu ns)) → Q (.ref p) H'
theorem same_new {H : Hp} {p : Addr} {o : HO} (h : H p = none) : Same H (upd H p o) := fun b x e => by
  rw [upd_ne (ne_of_none e h)]
  exact e
section
variable {P : Program} {w : World} {K : PySem.W.Frag} {mg : Str → Option Value} {base : Heap}
theorem ok_cup {st : Stmt} {f : Addr} {fd : FuncData} {k : Nat} {c1 m a q r : Int} (F : Fun K "_law_cup" "_law_cup" st f fd) (S : FnScope ["script", "cell"] ["script"] (defScope st))
    (hc1 : 0 < c1 ∧ c1 < 1073741824) (hm : 0 ≤ m ∧ m < 18446744073709551616) (hq : 0 < q)
    (g1 : (defScope st).names.lookup ("list" : Str) = some .globalImplicit) (g2 : (defScope st).names.lookup ("abs" : Str) = some .globalImplicit) (g3 : (defScope st).names.lookup ("int" : Str) = some .globalImplicit)
    (v0 : (defScope st).names.lookup ("script" : Str) = some .local) (v1 : (defScope st).names.lookup ("cell" : Str) = some .local)
    (ml : mg "list" = none) (ma : mg "abs" = none) (mi : mg "int" = none)
    {j1 j2 j3 j4 j5 j6 j7 j8 j9 j10 : Nat} {p1 p2 p3 p4 p5 p6 p7 p8 p9 p10 p11 p12 p13 p14 p15 p16 p17 p18 p19 p20 p21 p22 p23 p24 p25 p26 p27 p28 p29 p30 p31 p32 p33 p34 p35 : Pos}
    (hb : defBody st = [.Assign [.Name "cell" p1] (.Call (.Name "abs" p2) [.Subscript (.BinOp (.Call (.Name "list" p3) [.Name "script" p4] [] p5) .Add (.List [.Constant (.int 0) j1 p6] p7) p8) (.Constant (.int 0) j2 p9) p10] [] p11) p12,
      .Return (some (.List [.IfExp (.Compare (.Name "cell" p13) [.GtE] [.BinOp (.Constant (.int 10) j3 p14) .Pow (.Constant (.int 18) j4 p15) p16] p17) (.BinOp (.Name "cell" p18) .FloorDiv (.Constant (.int c1) j5 p19) p20) (.Constant (.int 0) j6 p21) p22,
        .BinOp (.BinOp (.Call (.Name "int" p23) [.BinOp (.BinOp (.Name "cell" p24) .Mult (.Constant (.int m) j7 p25) p26) .Add (.Constant (.int a) j8 p27) p28] [] p29) .Mod (.Constant (.int q) j9 p30) p31) .Add (.Constant (.int r) j10 p32) p33] p34)) p35]) :
    FnOk P w K mg base (L2.CX P w) (k + 1) f fd ["script"] (spCup K (cup0 c1 m a q r)) := by
  refine F.okX S (fun vs H Q E h => ?_) (fun cdv A outer s H vs Q E hr h => ?_)
  · obtain ⟨a, ns, rfl, _⟩ := h
    rfl
  · obtain ⟨ad, ns, rfl, hS, hlen, hq'⟩ := h
    rw [hb]
    refine ⟨_, pss_cons (ps_set (i := 1) S.nd rfl (.inl v1) (hf := .inr v1) (pe_callB call_abs g2 ma rfl (pa_cons (pe_ix ix_list (pe_op op_cat (pe_callTy call_list_of g1 ml rfl (pa_cons (pv 0 (hv := .inl v0)) pa_nil)) (pe_lst (pa_cons pe_int pa_nil))) pe_int (fun _ _ => rfl)) pa_nil)))
      (pss_one (ps_ret (pe_lst (pa_cons (pe_ifExp (pt_cmpR op_ge (pv 1 (hv := .inl v1)) (pe_op op_pow pe_int pe_int) (nomark _)) (pe_op op_fdiv (pv 1 (hv := .inl v1)) pe_int) pe_int)
        (pa_cons (pe_op op_add (pe_op op_mod (pe_callTy call_int1 g3 mi rfl (pa_cons (pe_op op_add (pe_op op_mul (pv 1 (hv := .inl v1)) pe_int) pe_int) pa_nil)) pe_int) pe_int) pa_nil))))), ?_⟩
    refine ⟨.ref ad, rfl, ad, ns.map V.int, rfl, .inl hS, fun p1 h1 => ?_⟩
    refine ⟨by rw [sizeLine_eq]; decide, fun p2 h2 => ?_⟩
    have n12 : p1 ≠ p2 := fun z => by rw [z, upd_same] at h2; cases h2
    have e1 : upd (upd H p1 (.lst (ns.map V.int))) p2 (.lst [.int 0]) p1 = some (.lst (ns.map V.int)) := by rw [upd_ne n12, upd_same]
    refine ⟨p1, p2, ns.map V.int, [.int 0], rfl, rfl, e1, upd_same, ?_, fun p3 h3 => ?_⟩
    · rw [List.length_map, sizeLine_eq]
      show ns.length + 1 ≤ _
      omega
    · have g : (ns.map V.int ++ [.int 0])[0]? = some (.int (ns.headD 0)) := by
        cases ns <;> rfl
      refine ⟨p3, _, 0, .int (ns.headD 0), rfl, rfl, SqL.of upd_same, atI_nat (j := 0) g, ns.headD 0, rfl, ?_⟩
      generalize hcell : (if ns.headD 0 < 0 then -ns.headD 0 else ns.headD 0) = cell
      have fin : ∀ p, upd (upd (upd H p1 (.lst (ns.map V.int))) p2 (.lst [.int 0])) p3 (.lst (ns.map V.int ++ [.int 0])) p = none →
          Q (.ref p) (upd (upd (upd (upd H p1 (.lst (ns.map V.int))) p2 (.lst [.int 0])) p3 (.lst (ns.map V.int ++ [.int 0]))) p (.lst [.int (if 10 ^ 18 ≤ cell then cell / c1 else 0), .int ((cell * m + a) % q + r)])) := fun p hp => by
        have s1 : Same H (upd H p1 (.lst (ns.map V.int))) := same_new h1
        have s2 := s1.trans (same_new (o := .lst [.int 0]) h2)
        have s3 := s2.trans (same_new (o := .lst (ns.map V.int ++ [.int 0])) h3)
        refine hq' _ p (s3.trans (same_new hp)) ?_ ?_
        · cases e : H p with
          | none => rfl
          | some o =>
            rw [s3 _ _ e] at hp
            cases hp
        · rw [upd_same, ← hcell]
          rfl
      have cm : CMul cell m := .inr ⟨by omega, by omega⟩
      have p10 : ((10 : Int) ^ (18 : Int).toNat) = 10 ^ 18 := rfl
      have sl2 : ([V.int 0, V.int 0] : List V).length ≤ sizeLine := by rw [sizeLine_eq]; decide
      refine ⟨.int cell, rfl, 10, 18, rfl, rfl, ⟨by decide, by decide, by decide⟩, cell, 10 ^ 18, rfl, rfl, _, rfl, ite2 (fun e => ?_) (fun e => ?_)⟩
      · rw [if_pos (of_decide_eq_true e)] at fin
        exact ⟨.int cell, rfl, cell, c1, rfl, rfl, hc1, .int cell, rfl, cell, m, rfl, rfl, cm, cell * m, a, rfl, rfl, .inl ⟨cell * m + a, rfl, cell * m + a, q, rfl, rfl, hq, (cell * m + a) % q, r, rfl, rfl, sl2, fin⟩⟩
      · rw [if_neg (fun z => e (decide_eq_true z))] at fin
        exact ⟨.int cell, rfl, cell, m, rfl, rfl, cm, cell * m, a, rfl, rfl, .inl ⟨cell * m + a, rfl, cell * m + a, q, rfl, rfl, hq, (cell * m + a) % q, r, rfl, rfl, sl2, fin⟩⟩
def spLawV (K : PySem.W.Frag) : Sp := fun vs H Q _ => ∃ (a : Addr) (ns : List Int), vs = [.ref a] ∧ SqL K H a (ns.map V.int) ∧ ns.length ≤ 63 ∧ ∀ H', Q (.bl true) H'
theorem ok_lawv {st : Stmt} {f : Addr} {fd : FuncData} {k : Nat} {N' : List Str} {cu : List Int → Cup} {rest : List Stmt} {p1 p2 p3 p4 p5 : Pos} {sv : Sv} {O' : List Nat}
    (F : Fun K "law" "law" st f fd) (S : FnScope ("script" :: "cup" :: N') ["script"] (defScope st))
    {fC : Addr} {fdC : FuncData} (GC : FnOk P w K mg base (L2.CX P w) k fC fdC ["script"] (spCup K cu)) (hm : mg "_law_cup" = some (.ref fC)) (hk : PySem.W.keepIn K (.ref fC) = true) (hbd : Binds K fdC ["script"] [])
    (hb : defBody st = .Assign [.Name "cup" p1] (.Call (.Name "_law_cup" p2) [.Name "script" p3] [] p4) p5 :: rest)
    (g1 : (defScope st).names.lookup ("_law_cup" : Str) = some .globalImplicit) (v0 : Vis (defScope st) "script") (v1 : Loc (defScope st) "cup")
    (hbody : ∀ (cdv : Value) (A : Around) (outer : List PySem.Env) (s : Shared) (H : Hp) (E : XK), Room k (A.deeper (envOfC "law" (defScope st) s.heap.objs.size f cdv)) →
      QSs (cxD P w K mg base ("script" :: "cup" :: N') "law" st f cdv A outer s H E) ⟨Er mg E, some 1⟩ [] [] rest sv O')
    (hlaw : ∀ ns : List Int, ns.length ≤ 63 → ∃ cp, sv (List.replicate (N'.length + 2) none) (cu ns) = .ok (.rt (.bool true)) cp) :
    FnOk P w K mg base (L2.CX P w) (k + 1) f fd ["script"] (spLawV K) := by
  refine F.okX S (fun vs H Q E h => ?_) (fun cdv A outer s H vs Q E hr h => ?_)
  · obtain ⟨a, ns, rfl, _⟩ := h
    rfl
  · obtain ⟨ad, ns, rfl, hS, hlen, hq⟩ := h
    rw [hb]
    obtain ⟨E2, hx, hz⟩ := zp_def (P := P) (w := w) (K := K) (mg := mg) (base := base) (N := "script" :: "cup" :: N') (x := "law") (st := st) (f := f) (cdv := cdv) (A := A) (outer := outer) (s := s) (H := H) (E := E) (ci := some 1)
    refine ⟨_, pss_cons (ps_set (i := 1) S.nd rfl v1 (hf := .inl rfl) (pe_call GC hr g1 hm hk hbd .nil hx (pa_cons (pv 0 (hv := v0)) pa_nil))) (hbody cdv A outer s H E hr).ps, ?_⟩
    refine ⟨.ref ad, rfl, ad, ns, rfl, hS, hlen, fun H1 p sm hp hc => ?_⟩
    obtain ⟨cp, el⟩ := hlaw ns hlen
    have hlen2 : (L2.start ("script" :: "cup" :: N') [V.ref ad]).length = N'.length + 2 := by
      unfold L2.start
      rw [List.length_append, List.length_map, List.length_replicate]
      simp
      omega
    have rep : ∀ {i : Nat} {d : D}, (List.replicate (N'.length + 2) (none : Option D))[i]? ≠ some (some d) := fun {i d} z => by
      rw [List.getElem?_replicate] at z
      split at z <;> cases z
    have pre : Pre ⟨K, P, w⟩ (some 1) [] p (· = p) (fun _ => none) (List.replicate (N'.length + 2) none) (cu ns) (fun _ => none) ((L2.start ("script" :: "cup" :: N') [V.ref ad]).set 1 (some (.ref p))) H1 :=
      ⟨fun b o e => (by cases e), hc, rfl, fun b e => e ▸ ⟨_, hc⟩, fun _ _ => rfl, fun i d h _ => absurd h rep, fun i d a _ h => by simp at h, fun i d _ h => by simp at h, fun i j a h => by simp at h, fun i a h => by simp at h, fun i hi => by
        cases hi
        exact ⟨by rw [List.getElem?_set_self (by rw [hlen2]; omega)], by simp, fun d h => absurd h rep⟩, by rw [List.length_replicate, List.length_set, hlen2]⟩
    refine ⟨p, (· = p), fun _ => none, H1, List.replicate (N'.length + 2) none, cu ns, ⟨(· = p), fun _ => none, fun _ => none, pre, fun _ h => h, fun i a h => by simp at h, fun i a h => by simp at h, pre.refl⟩, ?_⟩
    rw [el]
    intro F' H' v _ _ r
    cases r
    exact hq H'
end
end MP
namespace MP
open PySem PySem.Spec PyProof.Rows L2

/-! ## methods of built-in types -/
def eMe (ty : D → Bool) (op : D → List D → Option D) (fo : Ev) (fs : Evs) : Ev := fun env cp => (fo env cp).bind fun d cp1 => if ty d then (fs env cp1).bind fun ds cp2 => match op d ds with
    | some e => .ok e cp2
    | none => .bad
  else .bad
def MeS (X : Cx) (T : String) (ty : D → Bool) (id : String) (op : D → List D → Option D) : Prop :=
  (∀ (c : Addr) (W : Addr → Prop) (F H : Hp) (x : V) (d : D), Sit c W F H → Pk X.kk c F H x d → ty d = true → tyV X.kk T x H) ∧
  ∃ r, MtR X id r ∧ ∀ (c : Addr) (W : Addr → Prop) (F H : Hp) (x : V) (xs : List V) (d : D) (ds : List D) (e : D) (Q : VK), Sit c W F H → Pk X.kk c F H x d → PkA X.kk c F H xs ds → op d ds = some e →
    (∀ F' H' v, Stp c W F H F' H' → H' c = H c → Fr X.kk H F' H' v e → Q v H') → r x xs H Q
section
variable {X : Cx} {z : Z} {O : List Nat}
theorem q_meth {T id : String} {ty : D → Bool} {op : D → List D → Option D} {o e : Expr} {es : List Expr} {fo : Ev} {fs : Evs} {name : Str} {apos cpos : Pos} (h : MeS X T ty id op) (pa : PlainAttrs T) (slot : Slot T name id) (hty : typeOf (.builtin id) = pure (.type "method_descriptor"))
    (ho : QP X z O o fo) (ha : QPA X z O (e :: es) fs)
    (hbase : attributeBase o name X.env (eval o X.env) = eval o X.env := by rfl)
    (hfew : ((backTo cpos (starEach (e :: es) X.env)).all (fun x => !x.1) && (backToKw cpos (keywordEach [] X.env)).all (fun x => x.1.isSome)
      && decide ((e :: es).length + ([] : List Keyword).length + (if ([] : List Keyword).isEmpty then 0 else 1) < 30)) = true := by rfl)
    (hline : (apos.endLine == cpos.line) = true := by rfl) (hs : starEach (e :: es) X.env = (false, eval e X.env) :: starEach es X.env := by rfl) (hplain : (backTo cpos (starEach es X.env)).any (·.1) = false := by rfl) :
    QF X z O (.Call (.Attribute o name apos) (e :: es) [] cpos) (eMe ty op fo fs) := by
  obtain ⟨hv, r, hr, go⟩ := h
  refine ⟨PE.to (pe_bm pa slot hty hr ho.pe ha.pa hbase hfew hline hs hplain) ?_⟩
  rintro σ H Q ⟨c, W, A, env, cp, F, p, q⟩
  refine ⟨c, W, A, env, cp, F, p, (Aft.bind q).imp fun d cp1 F1 H1 s1 e1 q1 v r1 => ?_⟩
  cases ht : ty d with
  | false => rw [if_neg (by rw [ht]; decide)] at q1; exact q1.elim
  | true =>
    rw [if_pos ht] at q1
    refine ⟨hv c W F1 H1 v d (p.sit.step s1 e1) r1 ht, c, W, A, env, cp1, F1, p.step s1 e1, (Aft.bind q1).imp fun ds cp2 F2 H2 s2 e2 q2 vs r2 => ?_⟩
    cases eo : op d ds with
    | none => simp only [eo] at q2; exact q2.elim
    | some b =>
      simp only [eo] at q2
      refine go c W F2 H2 v vs d ds b Q ((p.sit.step s1 e1).step s2 e2) (r1.step s2) r2 eo fun F' H' v' s k f => q2 F' H' s (k.trans e2) v' ((f.back s2 e2).back s1 e1)
/-! x.count(d), x a list -/
def isLst : D → Bool
  | .list _ => true
  | _ => false
def mCount : D → List D → Option D
  | .list xs, [d] => if shp (.list xs) && shp d then some (.int (xs.countP fun y => PyData.eqv y d : Nat)) else none
  | _, _ => none
def rCntD (K : MpK) : V → List V → Hp → VK → Prop := fun x xs H Q => ∃ (p : Addr) (vs : List V) (ds : List D) (v : V) (d : D), x = .ref p ∧ xs = [v] ∧ SqL K H p vs ∧ DpAll K H vs ds ∧ Dp K H v d ∧ shp (.list ds) = true ∧ shp d = true ∧ Q (.int (ds.countP fun y => PyData.eqv y d : Nat)) H
theorem mt_countD (hu : X.A.units + 65 < cLine) : MtR X "list.count" (rCntD X.kk) := by
  intro pins s σ H x xs v us Q I rx rxs h
  obtain ⟨p, vs, ds, y, d, rfl, rfl, hs, hd, hy, k1, k2, q⟩ := h
  cases rx
  obtain ⟨u, rfl, ru⟩ := rxs.one
  obtain ⟨its, rv, hl, hlen⟩ := I.list hs
  obtain ⟨as, ra⟩ := Dp.readsAll I _ _ _ hd rv
  obtain ⟨bs, rb⟩ := Dp.reads I _ _ _ hy ru
  have kd : d.canLay0 = true := (Bool.and_eq_true_iff.mp k2).1
  have dd : d.depth ≤ 64 := of_decide_eq_true (Bool.and_eq_true_iff.mp k2).2
  have kx : PyData.canLayAll0 ds = true := by
    have := (Bool.and_eq_true_iff.mp k1).1
    simpa [PyData.canLay0] using this
  refine SeqAt.count_list_data (vs := its.toArray) (xs := ds) (d := d) hl.isList (by simpa using ra) rb (PyData.plainAll_of_canLay0 _ kx) (PyData.plain_of_canLay0 _ kd) (by have : min (PyData.depthAll ds) d.depth ≤ 64 := Nat.le_trans (Nat.min_le_right _ _) dd; show X.A.units + 1 + _ < _; omega) ⟨.int (ds.countP fun y => PyData.eqv y d : Nat), H, I.tok _, ⟨s.toks, rfl⟩, q⟩
theorem Pk.isL {c : Addr} {W : Addr → Prop} {F H : Hp} {x : V} {d : D} (st : Sit c W F H) (r : Pk X.kk c F H x d) (h : isLst d = true) : tyV X.kk "list" x H := by
  cases d with
  | list ds =>
    obtain ⟨a, vs, rfl, h1, h2, h3⟩ := r.list st.sub
    exact .inl ⟨rfl, vs, SqL.of h1⟩
  | _ => cases h
theorem me_count (hu : X.A.units + 65 < cLine) : MeS X "list" isLst "list.count" mCount := by
  refine ⟨fun c W F H x d st r h => r.isL st h, _, mt_countD hu, ?_⟩
  intro c W F H x xs d ds e Q st r rs eo q
  match d, ds, eo with
  | .list zs, [d], eo =>
    obtain ⟨a, vs, rfl, h1, h2, h3⟩ := r.list st.sub
    have ro := rs.one; clear rs; obtain ⟨v, rfl, r2⟩ := ro
    obtain ⟨h, rfl⟩ := if_some (show (if shp (.list zs) && shp d then some (PyData.int (zs.countP fun y => PyData.eqv y d : Nat)) else none) = some e from eo)
    obtain ⟨k1, k2⟩ := Bool.and_eq_true_iff.mp h
    have kx : PyData.canLayAll0 zs = true := by
      have := (Bool.and_eq_true_iff.mp k1).1
      simpa [PyData.canLay0] using this
    exact ⟨a, vs, zs, v, d, rfl, rfl, SqL.of h1, h3.dp st.sub kx, r2.dp st.sub (Bool.and_eq_true_iff.mp k2).1, k1, k2, q F H _ st.refl rfl (fr_flat (.int _))⟩
theorem q_count {o e : Expr} {fo fe : Ev} {apos cpos : Pos} (hu : X.A.units + 65 < cLine) (ho : QP X z O o fo) (ha : QPA X z O [e] (eCons fe eNil))
    (hbase : attributeBase o "count" X.env (eval o X.env) = eval o X.env := by rfl)
    (hline : (apos.endLine == cpos.line) = true := by rfl) (hs : starEach [e] X.env = (false, eval e X.env) :: starEach [] X.env := by rfl) :
    QF X z O (.Call (.Attribute o "count" apos) [e] [] cpos) (eMe isLst mCount fo (eCons fe eNil)) :=
  q_meth (me_count hu) PySem.F.plainAttrs_list PySem.F.slot_list_count PySem.F.type_list_count ho ha hbase (by rw [hs]; rfl) hline hs
/-! -e -/
def eNeg (f : Ev) : Ev := fun env cp => (f env cp).bind fun d cp1 => match d with
  | .int i => .ok (.int (-i)) cp1
  | _ => .bad
theorem q_neg {e : Expr} {f : Ev} {pos : Pos} (h : QE X z O e f) : QE X z O (.UnaryOp .USub e pos) (eNeg f) := by
  refine ⟨PE.to (pe_un un_neg h.pe) ?_⟩
  rintro σ H Q ⟨c, W, A, env, cp, F, p, q⟩
  refine ⟨c, W, A, env, cp, F, p, (Aft.bind q).imp fun d cp1 F1 H1 s1 e1 q1 v r1 => ?_⟩
  cases d with
  | int i =>
    cases r1
    exact ⟨i, rfl, q1 F1 H1 s1.sitStep e1 _ (.int _)⟩
  | _ => exact q1.elim
end
end MP
namespace MP
open PySem PySem.Spec PyProof.Rows L2

/-! ## several names at once, lists of one's own among the values -/
inductive HAll (K : MpK) (W : Addr → Prop) (c : Addr) (F H : Hp) : List Bool → List V → List D → List Addr → Prop
  | nil : HAll K W c F H [] [] [] []
  | e {v : V} {d : D} {bs : List Bool} {vs : List V} {ds : List D} {as : List Addr} : Rp K F v d → HAll K W c F H bs vs ds as → HAll K W c F H (false :: bs) (v :: vs) (d :: ds) as
  | n {v : V} {d : D} {bs : List Bool} {vs : List V} {ds : List D} {as : List Addr} : isBox d = false → Rp K F v d → HAll K W c F H bs vs ds as → HAll K W c F H (true :: bs) (v :: vs) (d :: ds) as
  | b {a : Addr} {d : D} {bs : List Bool} {vs : List V} {ds : List D} {as : List Addr} : W a → a ≠ c → OwnAt K F H a d → a ∉ as → HAll K W c F H bs vs ds as → HAll K W c F H (true :: bs) (.ref a :: vs) (d :: ds) (a :: as)
section
variable {K : MpK} {W W' : Addr → Prop} {c : Addr} {F H F' H' : Hp} {ci : Option Nat} {O : List Nat} {A : Nat → Option Addr} {env : Env} {cp : Cup} {σ : L2.St}
theorem HAll.step {bs : List Bool} {vs : List V} {ds : List D} {as : List Addr} (h : HAll K W c F H bs vs ds as) (s : Stp c W F H F' H') : HAll K W c F' H' bs vs ds as := by
  induction h with
  | nil => exact .nil
  | e r _ ih => exact .e (r.mono s.f) ih
  | n b r _ ih => exact .n b (r.mono s.f) ih
  | b w n o d _ ih => exact .b w n (o.mono s.f fun o => s.h _ o n) d ih
theorem HAll.weak {bs : List Bool} {vs : List V} {ds : List D} {as : List Addr} (h : HAll K W c F H bs vs ds as) (k : ∀ b, W b → W' b) : HAll K W' c F H bs vs ds as := by
  induction h with
  | nil => exact .nil
  | e r _ ih => exact .e r ih
  | n b r _ ih => exact .n b r ih
  | b w n o d _ ih => exact .b (k _ w) n o d ih
theorem HAll.len {bs : List Bool} {vs : List V} {ds : List D} {as : List Addr} (h : HAll K W c F H bs vs ds as) : vs.length = bs.length ∧ ds.length = bs.length := by
  induction h with
  | nil => exact ⟨rfl, rfl⟩
  | e r _ ih => exact ⟨by rw [List.length_cons, List.length_cons, ih.1], by rw [List.length_cons, List.length_cons, ih.2]⟩
  | n b r _ ih => exact ⟨by rw [List.length_cons, List.length_cons, ih.1], by rw [List.length_cons, List.length_cons, ih.2]⟩
  | b w n o d _ ih => exact ⟨by rw [List.length_cons, List.length_cons, ih.1], by rw [List.length_cons, List.length_cons, ih.2]⟩
theorem OwnAt.some {a : Addr} {d : D} (h : OwnAt K F H a d) : ∃ o, H a = some o := by
  cases d with
  | list ds => obtain ⟨vs, h1, _⟩ := h; exact ⟨_, h1⟩
  | dict ds => rcases h with ⟨vs, h1, _⟩ | ⟨vs, h1, _⟩ <;> exact ⟨_, h1⟩
  | _ => exact h.elim
/-- a slot takes a held list -/
theorem Pre.setH (p : Pre K ci O c W A env cp F σ H) {i : Nat} {a : Addr} {d : D} (hi : i ∉ O) (hc : ci ≠ some i) (wa : W a) (na : a ≠ c) (dis : ∀ j ∈ O, A j ≠ some a) (ho : OwnAt K F H a d) :
    Pre K ci (i :: O) c W (fun j => if j = i then some a else A j) (env.set i (some d)) cp F (σ.set i (some (.ref a))) H := by
  have back : ∀ {j : Nat} {d' : D}, i ≠ j → (env.set i (some d))[j]? = some (some d') → env[j]? = some (some d') := fun hj h => by rw [List.getElem?_set_ne hj] at h; exact h
  have len : ∀ {d' : D}, (env.set i (some d))[i]? = some (some d') → d' = d ∧ i < σ.length := fun h => by
    have hl : i < env.length := by
      obtain ⟨h, _⟩ := List.getElem?_eq_some_iff.mp h
      simpa using h
    rw [List.getElem?_set_self hl] at h
    cases h
    exact ⟨rfl, by rw [← p.ln]; exact hl⟩
  refine ⟨p.sub, p.cup, p.wc, p.wh, p.wf, fun j d' q1 q2 => ?_, fun j d' b q1 q2 q3 => ?_, fun j d' q1 q2 q3 => ?_, fun j l b q1 q2 q3 q4 => ?_, fun j b q1 q2 => ?_, fun j hj => ?_, by rw [List.length_set, List.length_set]; exact p.ln⟩
  · by_cases hj : i = j
    · subst hj
      rcases q2 with q2 | q2
      · exact absurd List.mem_cons_self q2
      · have q2' : (if i = i then some a else A i) = none := q2
        rw [if_pos rfl] at q2'; cases q2'
    · rw [List.getElem?_set_ne hj]
      refine p.sl j d' (back hj q1) (q2.imp (fun z w => z (List.mem_cons_of_mem _ w)) fun z => ?_)
      have z' : (if j = i then some a else A j) = none := z
      rw [if_neg (Ne.symm hj)] at z'
      exact z'
  · have q3' : (if j = i then some a else A j) = some b := q3
    by_cases hj : i = j
    · subst hj
      rw [if_pos rfl] at q3'
      cases q3'
      obtain ⟨rfl, hl⟩ := len q1
      exact ⟨List.getElem?_set_self hl, ho, wa, na⟩
    · rw [if_neg (Ne.symm hj)] at q3'
      rw [List.getElem?_set_ne hj]
      exact p.ow j d' b (back hj q1) ((List.mem_cons.mp q2).elim (fun z => absurd z.symm hj) id) q3'
  · have q3' : (if j = i then some a else A j) = none := q3
    by_cases hj : i = j
    · rw [if_pos hj.symm] at q3'; cases q3'
    · rw [if_neg (Ne.symm hj)] at q3'
      exact p.bx j d' (back hj q1) ((List.mem_cons.mp q2).elim (fun z => absurd z.symm hj) id) q3'
  · have q3' : (if j = i then some a else A j) = some b := q3
    have q4' : (if l = i then some a else A l) = some b := q4
    by_cases hj : j = i
    · by_cases hl : l = i
      · rw [hj, hl]
      · rw [if_pos hj] at q3'
        rw [if_neg hl] at q4'
        cases q3'
        exact absurd q4' (dis l ((List.mem_cons.mp q2).elim (fun z => absurd z hl) id))
    · by_cases hl : l = i
      · rw [if_neg hj] at q3'
        rw [if_pos hl] at q4'
        cases q4'
        exact absurd q3' (dis j ((List.mem_cons.mp q1).elim (fun z => absurd z hj) id))
      · rw [if_neg hj] at q3'
        rw [if_neg hl] at q4'
        exact p.dj j l b ((List.mem_cons.mp q1).elim (fun z => absurd z hj) id) ((List.mem_cons.mp q2).elim (fun z => absurd z hl) id) q3' q4'
  · have q2' : (if j = i then some a else A j) = some b := q2
    by_cases hj : j = i
    · rw [if_pos hj] at q2'; cases q2'; exact wa
    · rw [if_neg hj] at q2'
      exact p.aw j b ((List.mem_cons.mp q1).elim (fun z => absurd z hj) id) q2'
  · obtain ⟨k1, k2, k3⟩ := p.cs j hj
    have hn : i ≠ j := fun z => hc (z ▸ hj)
    exact ⟨by rw [List.getElem?_set_ne hn]; exact k1, by rw [List.mem_cons, not_or]; exact ⟨hn.symm, k2⟩, fun d' q => k3 d' (back hn q)⟩
def setL {α : Type} : List (Option α) → List Nat → List α → List (Option α)
  | env, i :: is, d :: ds => setL (env.set i (some d)) is ds
  | env, _, _ => env
def outO : List Bool → List Nat → List Nat → List Nat
  | true :: bs, i :: is, O => outO bs is (i :: O)
  | false :: bs, _ :: is, O => outO bs is O
  | _, _, O => O
theorem HAll.there {bs : List Bool} {vs : List V} {ds : List D} {as : List Addr} (h : HAll K W c F H bs vs ds as) : ∀ a ∈ as, ∃ o, H a = some o := by
  induction h with
  | nil => exact fun a h => by cases h
  | e r _ ih => exact ih
  | n b r _ ih => exact ih
  | b w n o d _ ih =>
    intro x hx
    rcases List.mem_cons.mp hx with rfl | hx
    · exact o.some
    · exact ih x hx
theorem Pre.setAll {bs : List Bool} {vs : List V} {ds : List D} {as : List Addr} (h : HAll K W c F H bs vs ds as) : ∀ {W' : Addr → Prop} {is : List Nat} {O : List Nat} {A : Nat → Option Addr} {env : Env} {σ : L2.St}, (∀ b, W b → W' b) → Pre K ci O c W' A env cp F σ H → (∀ a ∈ as, ∀ j ∈ O, A j ≠ some a) → is.Nodup → (∀ i ∈ is, i ∉ O) → (∀ i ∈ is, ci ≠ some i) → is.length = bs.length →
    ∃ W2 A', Pre K ci (outO bs is O) c W2 A' (setL env is ds) cp F (setL σ is vs) H ∧ (∀ b, W' b → W2 b) ∧ ∀ j a, j ∈ outO bs is O → A' j = some a → (j ∈ O ∧ A j = some a) ∨ a ∈ as := by
  induction h with
  | nil =>
    intro W' is O A env σ kW p dis nd nO nc hl
    cases is with
    | nil => exact ⟨W', A, p, fun _ h => h, fun j a h1 h2 => .inl ⟨h1, h2⟩⟩
    | cons i is => cases hl
  | e r h ih =>
    intro W' is O A env σ kW p dis nd nO nc hl
    cases is with
    | nil => cases hl
    | cons i is =>
      obtain ⟨n1, n2⟩ := List.nodup_cons.mp nd
      exact ih kW (p.set (nO i List.mem_cons_self) (nc i List.mem_cons_self) r) dis n2 (fun j hj => nO j (List.mem_cons_of_mem _ hj)) (fun j hj => nc j (List.mem_cons_of_mem _ hj)) (by simpa using hl)
  | n b r h ih =>
    intro W' is O A env σ kW p dis nd nO nc hl
    cases is with
    | nil => cases hl
    | cons i is =>
      obtain ⟨n1, n2⟩ := List.nodup_cons.mp nd
      obtain ⟨W1, A1, p1, k1, k2, k3⟩ := p.setF (i := i) (nO i List.mem_cons_self) (nc i List.mem_cons_self) p.refl p.cup (.inl ⟨b, r⟩)
      have no : ∀ a, A1 i = some a → False := fun a ha => by
        obtain ⟨o, ho⟩ := p1.wh a (p1.aw i a List.mem_cons_self ha)
        rw [k3 a ha] at ho
        cases ho
      obtain ⟨W2, A', p', kk, k⟩ := ih (fun b hb => k1 b (kW b hb)) p1 (fun a ha j hj => by
        by_cases e : j = i
        · subst e
          exact fun z => no a z
        · rw [k2 j e]
          exact dis a ha j ((List.mem_cons.mp hj).elim (fun z => absurd z e) id)) n2 (fun j hj z => by
        rcases List.mem_cons.mp z with z | z
        · exact n1 (z ▸ hj)
        · exact nO j (List.mem_cons_of_mem _ hj) z) (fun j hj => nc j (List.mem_cons_of_mem _ hj)) (by simpa using hl)
      refine ⟨W2, A', p', fun b hb => kk b (k1 b hb), fun j a h1 h2 => ?_⟩
      rcases k j a h1 h2 with ⟨h3, h4⟩ | h3
      · by_cases e : j = i
        · subst e
          exact (no a h4).elim
        · rw [k2 j e] at h4
          exact .inl ⟨(List.mem_cons.mp h3).elim (fun z => absurd z e) id, h4⟩
      · exact .inr h3
  | b w n o d h ih =>
    intro W' is O A env σ kW p dis nd nO nc hl
    rename_i a _ _ _ _ _
    cases is with
    | nil => cases hl
    | cons i is =>
      obtain ⟨n1, n2⟩ := List.nodup_cons.mp nd
      obtain ⟨W2, A', p', kk, k⟩ := ih kW (p.setH (nO i List.mem_cons_self) (nc i List.mem_cons_self) (kW _ w) n (dis a List.mem_cons_self) o) (fun b hb j hj => by
        by_cases e : j = i
        · show (if j = i then some a else A j) ≠ some b
          rw [if_pos e]
          intro z
          cases z
          exact d hb
        · show (if j = i then some a else A j) ≠ some b
          rw [if_neg e]
          exact dis b (List.mem_cons_of_mem _ hb) j ((List.mem_cons.mp hj).elim (fun z => absurd z e) id)) n2 (fun j hj z => by
        rcases List.mem_cons.mp z with z | z
        · exact n1 (z ▸ hj)
        · exact nO j (List.mem_cons_of_mem _ hj) z) (fun j hj => nc j (List.mem_cons_of_mem _ hj)) (by simpa using hl)
      refine ⟨W2, A', p', kk, fun j b h1 h2 => ?_⟩
      rcases k j b h1 h2 with ⟨h3, h4⟩ | h3
      · have h4' : (if j = i then some a else A j) = some b := h4
        by_cases e : j = i
        · rw [if_pos e] at h4'
          cases h4'
          exact .inr List.mem_cons_self
        · rw [if_neg e] at h4'
          exact .inl ⟨(List.mem_cons.mp h3).elim (fun z => absurd z e) id, h4'⟩
      · exact .inr (List.mem_cons_of_mem _ h3)
end
/-! elements: frozen, or fresh -/
def tX (K : MpK) (z : Z) (O : List Nat) (b : Bool) (f : Ev) : TE := if b then tFr K z O f else tEv K z O f
structure QX (X : Cx) (z : Z) (O : List Nat) (b : Bool) (e : Expr) (f : Ev) : Prop where
  pe : PE X e (tX X.kk z O b f)
theorem qx_f {X : Cx} {z : Z} {O : List Nat} {e : Expr} {f : Ev} (h : QF X z O e f) : QX X z O true e f := ⟨h.pe⟩
theorem qx_e {X : Cx} {z : Z} {O : List Nat} {e : Expr} {f : Ev} (h : QE X z O e f) : QX X z O false e f := ⟨h.pe⟩
def tXs (K : MpK) (z : Z) (O : List Nat) (bs : List Bool) (f : Evs) : TA := fun σ H Q => ∃ c W A env cp F, Pre K z.ci O c W A env cp F σ H ∧
  Aft z.E c W F H (f env cp) fun ds cp' F' H' => ∀ W' vs as, (∀ b, W b → W' b) → Pre K z.ci O c W' A env cp' F' σ H' → HAll K W' c F' H' bs vs ds as → (∀ a ∈ as, H a = none) → Q vs H'
structure QXs (X : Cx) (z : Z) (O : List Nat) (bs : List Bool) (es : List Expr) (f : Evs) : Prop where
  pa : PA X es (tXs X.kk z O bs f)
section
variable {X : Cx} {z : Z} {O O' L : List Nat}
theorem qxs_nil : QXs X z O [] [] eNil := ⟨PA.to pa_nil fun σ H Q ⟨c, W, A, env, cp, F, p, q⟩ => q F H p.refl p.cup W [] [] (fun _ h => h) p .nil (fun a h => by cases h)⟩
theorem Pre.moreW {K : MpK} {ci : Option Nat} {O : List Nat} {c : Addr} {W W' : Addr → Prop} {A : Nat → Option Addr} {env : Env} {cp : Cup} {F : Hp} {σ : L2.St} {H : Hp} (p : Pre K ci O c W A env cp F σ H) (k : ∀ b, W b → W' b) (wh : ∀ b, W' b → ∃ o, H b = some o) (wf : ∀ b, W' b → F b = none) : Pre K ci O c W' A env cp F σ H :=
  ⟨p.sub, p.cup, k _ p.wc, wh, wf, p.sl, fun i d a h1 h2 h3 => by
    obtain ⟨q1, q2, q3, q4⟩ := p.ow i d a h1 h2 h3
    exact ⟨q1, q2, k _ q3, q4⟩, p.bx, p.dj, fun i a h1 h2 => k _ (p.aw i a h1 h2), p.cs, p.ln⟩
theorem qxs_cons {b : Bool} {bs : List Bool} {e : Expr} {es : List Expr} {f : Ev} {g : Evs} (he : QX X z O b e f) (hr : QXs X z O bs es g) (hs : starEach (e :: es) X.env = (false, eval e X.env) :: starEach es X.env := by rfl) : QXs X z O (b :: bs) (e :: es) (eCons f g) := by
  refine ⟨PA.to (pa_cons he.pe hr.pa hs) ?_⟩
  rintro σ H Q ⟨c, W, A, env, cp, F, p, q⟩
  have nx : ∀ (d : D) (cp1 : Cup) (F1 H1 : Hp) (W1 : Addr → Prop) (v : V), Stp c W F H F1 H1 → H1 c = some (cupV cp1) → (∀ b, W b → W1 b) → (∀ b, W1 b → ∃ o, H1 b = some o) → (∀ b, W1 b → F1 b = none) →
      (∀ (F' H' : Hp) (W' : Addr → Prop) (vs : List V) (ds : List D) (as : List Addr), Stp c W1 F1 H1 F' H' → (∀ b, W1 b → W' b) → HAll X.kk W' c F' H' bs vs ds as → (∀ a ∈ as, H1 a = none) → ∃ as', HAll X.kk W' c F' H' (b :: bs) (v :: vs) (d :: ds) as' ∧ ∀ a ∈ as', H a = none) →
      Aft z.E c W F1 H1 ((g env cp1).bind fun ds cp2 => .ok (d :: ds) cp2) (fun ds cp' F' H' => ∀ W' vs as, (∀ b, W b → W' b) → Pre X.kk z.ci O c W' A env cp' F' σ H' → HAll X.kk W' c F' H' (b :: bs) vs ds as → (∀ a ∈ as, H a = none) → Q vs H') →
      tXs X.kk z O bs g σ H1 (fun vs H2 => Q (v :: vs) H2) := by
    intro d cp1 F1 H1 W1 v s1 e1 kW wh wf mk q1
    have p1 := (p.step s1 e1).moreW kW wh wf
    refine ⟨c, W1, A, env, cp1, F1, p1, ?_⟩
    generalize g env cp1 = r at q1
    cases r with
    | ok ds cp2 =>
      intro F2 H2 s2 e2 W2 vs as k2 p2 h2 fr
      obtain ⟨as', h3, fr'⟩ := mk F2 H2 W2 vs ds as s2 k2 h2 fr
      exact q1 F2 H2 (s2.weak kW) e2 W2 (v :: vs) as' (fun b hb => k2 b (kW b hb)) p2 h3 fr'
    | err x cp2 => exact fun F2 H2 s2 e2 => q1 F2 H2 (s2.weak kW) e2
    | bad => exact q1
  have bk : ∀ {F1 H1 : Hp} {cp1 : Cup} (s1 : Stp c W F H F1 H1) (e1 : H1 c = some (cupV cp1)) (a : Addr), H1 a = none → H a = none := fun s1 e1 a h => by
    cases e : H a with
    | none => rfl
    | some o =>
      by_cases hc : a = c
      · subst hc; rw [e1] at h; cases h
      · rw [s1.h a o hc e] at h; cases h
  cases b with
  | false =>
    refine ⟨c, W, A, env, cp, F, p, (Aft.bind q).imp fun d cp1 F1 H1 s1 e1 q1 v r => ?_⟩
    exact nx d cp1 F1 H1 W v s1 e1 (fun _ h => h) (p.step s1 e1).wh s1.w (fun F' H' W' vs ds as s2 k h fr => ⟨as, .e (r.mono s2.f) h, fun a ha => bk s1 e1 a (fr a ha)⟩) q1
  | true =>
    refine ⟨c, W, A, env, cp, F, p, (Aft.bind q).imp fun d cp1 F1 H1 s1 e1 q1 v r => ?_⟩
    rcases r with ⟨nb, r⟩ | ⟨a, rfl, hn, hf, ho⟩
    · exact nx d cp1 F1 H1 W v s1 e1 (fun _ h => h) (p.step s1 e1).wh s1.w (fun F' H' W' vs ds as s2 k h fr => ⟨as, .n nb (r.mono s2.f) h, fun a ha => bk s1 e1 a (fr a ha)⟩) q1
    · have na : a ≠ c := fun z => by
        have := p.cup
        rw [← z, hn] at this
        cases this
      refine nx d cp1 F1 H1 (fun b => W b ∨ b = a) (.ref a) s1 e1 (fun _ h => .inl h) (fun b hb => ?_) (fun b hb => ?_) (fun F' H' W' vs ds as s2 k h fr => ⟨a :: as, .b (k a (.inr rfl)) na (ho.mono s2.f fun o => s2.h _ o na) (fun z => ?_) h, fun x hx => ?_⟩) q1
      · rcases hb with hb | rfl
        · exact (p.step s1 e1).wh b hb
        · exact ho.some
      · rcases hb with hb | rfl
        · exact s1.w b hb
        · exact hf
      · obtain ⟨o, e⟩ := ho.some
        rw [fr a z] at e
        cases e
      · rcases List.mem_cons.mp hx with rfl | hx
        · exact hn
        · exact bk s1 e1 x (fr x hx)
end
/-- names = values -/
def sPar (is : List Nat) (f : Evs) : Sv := fun env cp => (f env cp).bind fun ds cp1 => .ok (.nx (setL env is ds)) cp1
section
variable {X : Cx} {z : Z} {O O' L : List Nat}
/-- the end of a many-names assignment -/
theorem par_fin {bs : List Bool} {is : List Nat} {f : Evs} {c : Addr} {W0 W : Addr → Prop} {A : Nat → Option Addr} {F0 H0 F H : Hp} {env : Env} {cp : Cup} {σ : L2.St} {Dn : Ends} (p : Pre X.kk z.ci O c W A env cp F σ H) (h1 : ∀ b, W0 b → W b) (h2 : ∀ (i : Nat) (a : Addr), i ∈ O → A i = some a → ¬ W0 a) (h3 : ∀ (i : Nat) (a : Addr), i ∈ O → A i = some a → H0 a = none)
    (s0 : Stp c W0 F0 H0 F H) (nd : is.Nodup) (nO : ∀ i ∈ is, i ∉ O) (nc : ∀ i ∈ is, z.ci ≠ some i) (hl : is.length = bs.length) (q : SAft X.kk z.E z.ci L (outO bs is O) c W0 F0 H0 Dn (sPar is f env cp)) :
    Aft z.E c W F H (f env cp) fun ds cp' F' H' => ∀ W' vs as, (∀ b, W b → W' b) → Pre X.kk z.ci O c W' A env cp' F' σ H' → HAll X.kk W' c F' H' bs vs ds as → (∀ a ∈ as, H a = none) → ∀ F2 H2, Stp c W F H F' H' → Stp c W' F' H' F2 H2 → H2 c = some (cupV cp') → Dn.nx (setL σ is vs) H2 := by
  refine (saft_e h1 s0 q).imp fun ds cp1 F1 H1 s1 e1 q1 W1 vs as kW p1 hh fr F2 H2 sA s2 e2 => ?_
  have q1 : ∀ σ' H', PreS X.kk z.ci (outO bs is O) c W0 F0 H0 (setL env is ds) cp1 σ' H' → Dn.nx σ' H' := q1
  obtain ⟨W2, A', p', kk, k⟩ := Pre.setAll (hh.step s2) (fun _ h => h) (p1.step s2 e2) (fun a ha j hj z => by
    obtain ⟨o, ho⟩ := p.wh a (p.aw j a hj z)
    rw [fr a ha] at ho
    cases ho) nd nO nc hl
  have kW0 : ∀ b, W0 b → W2 b := fun b hb => kk b (kW b (h1 b hb))
  refine q1 _ _ ⟨W2, A', F2, p', kW0, fun j a hj ha => ?_, fun j a hj ha => ?_, s0.trans ((sA.trans (s2.weak kW)).weak h1)⟩
  · rcases k j a hj ha with ⟨h4, h5⟩ | h4
    · exact h2 j a h4 h5
    · intro hw
      obtain ⟨o, ho⟩ := p.wh a (h1 a hw)
      rw [fr a h4] at ho
      cases ho
  · rcases k j a hj ha with ⟨h4, h5⟩ | h4
    · exact h3 j a h4 h5
    · cases e : H0 a with
      | none => rfl
      | some o =>
        by_cases hc : a = c
        · subst hc
          have := p.cup
          rw [fr a h4] at this
          cases this
        · have := s0.h a o hc e
          rw [fr a h4] at this
          cases this
theorem par_go {bs : List Bool} {is : List Nat} {f : Evs} {nv : Nat} {Dn : Ends} {σ : L2.St} {H : Hp} (nd : is.Nodup) (nO : ∀ i ∈ is, i ∉ O) (nc : ∀ i ∈ is, z.ci ≠ some i) (hl : is.length = bs.length) (h : tSv X.kk z L O (outO bs is O) (sPar is f) Dn σ H) :
    tXs X.kk z O bs f σ H fun vs H1 => vs.length = bs.length ∧ ∀ H2, (H2 = H1 ∨ ∃ p o, H1 p = none ∧ H2 = upd H1 p o) → Dn.nx (setL σ is vs) H2 := by
  obtain ⟨c, W0, F0, H0, env, cp, ⟨W, A, F, p, h1, h2, h3, s0⟩, q⟩ := h
  refine ⟨c, W, A, env, cp, F, p, (par_fin p h1 h2 h3 s0 nd nO nc hl q).imp fun ds cp1 F1 H1 s1 e1 k W' vs as kW p1 hh fr => ⟨hh.len.1, fun H2 e => ?_⟩⟩
  rcases e with rfl | ⟨pa, o, hp, rfl⟩
  · exact k W' vs as kW p1 hh fr F1 _ s1 p1.refl e1
  · exact k W' vs as kW p1 hh fr F1 _ s1 (p1.sit.new hp) ((p1.sit.keepc hp).trans e1)
theorem q_par2 {i j : Nat} {b b2 : Bool} {x y : Str} {e e2 : Expr} {f f2 : Ev} {px py pt pos : Pos} {kt k2 pt2} (hc : X.calm = true) (hN : X.N.Nodup) (h1 : QX X z O b e f) (h2 : QX X z O b2 e2 f2)
    (nd : [i, j].Nodup := by decide) (nO : ∀ k ∈ [i, j], k ∉ O := by decide) (nc : ∀ k ∈ [i, j], z.ci ≠ some k := by intro k hk h; cases h <;> revert hk <;> decide) (hi : X.N[i]? = some x := by rfl) (hj : X.N[j]? = some y := by rfl)
    (hx : X.env.scope.names.lookup x = some .local := by rfl) (hy : X.env.scope.names.lookup y = some .local := by rfl) (hw : swappedStores [.Tuple [.Name x px, .Name y py] kt pt] (.Tuple [e, e2] k2 pt2) X.env = pure (some [x, y]) := by rfl)
    (hs : swapsWithSole [.Tuple [.Name x px, .Name y py] kt pt] (.Tuple [e, e2] k2 pt2) pos.line X.env = pure false := by rfl)
    (hs1 : starEach [e, e2] X.env = (false, eval e X.env) :: starEach [e2] X.env := by rfl) (hs2 : starEach [e2] X.env = (false, eval e2 X.env) :: starEach [] X.env := by rfl) :
    QS X z L O (.Assign [.Tuple [.Name x px, .Name y py] kt pt] (.Tuple [e, e2] k2 pt2) pos) (sPar [i, j] (eCons f (eCons f2 eNil))) (outO [b, b2] [i, j] O) :=
  ⟨PS.to (ps_par hc hN hi hj (fun e => by rw [e] at nd; simp at nd) hx hy (qxs_cons h1 (qxs_cons h2 qxs_nil hs2) hs1).pa hw hs) fun Dn σ H h => by
    obtain ⟨c, W, A, env, cp, F, p, q⟩ := par_go (nv := 2) nd nO nc rfl h
    refine ⟨c, W, A, env, cp, F, p, q.imp fun ds cp1 F1 H1 s1 e1 k W' vs as kW p1 hh fr => ?_⟩
    obtain ⟨hl, k⟩ := k W' vs as kW p1 hh fr
    match vs, hl, k with
    | [v, w], _, k => exact ⟨v, w, rfl, k H1 (.inl rfl)⟩⟩
theorem q_par3 {i j l : Nat} {b b2 b3 : Bool} {x y w : Str} {e e2 e3 : Expr} {f f2 f3 : Ev} {px py pw pt pos : Pos} {kt k2 pt2} (hc : X.calm = true) (hN : X.N.Nodup) (h1 : QX X z O b e f) (h2 : QX X z O b2 e2 f2) (h3 : QX X z O b3 e3 f3)
    (nd : [i, j, l].Nodup := by decide) (nO : ∀ k ∈ [i, j, l], k ∉ O := by decide) (nc : ∀ k ∈ [i, j, l], z.ci ≠ some k := by intro k hk h; cases h <;> revert hk <;> decide) (hi : X.N[i]? = some x := by rfl) (hj : X.N[j]? = some y := by rfl) (hl : X.N[l]? = some w := by rfl)
    (hx : X.env.scope.names.lookup x = some .local := by rfl) (hy : X.env.scope.names.lookup y = some .local := by rfl) (hz : X.env.scope.names.lookup w = some .local := by rfl) (hw : swappedStores [.Tuple [.Name x px, .Name y py, .Name w pw] kt pt] (.Tuple [e, e2, e3] k2 pt2) X.env = pure (some [x, y, w]) := by rfl)
    (hs : swapsWithSole [.Tuple [.Name x px, .Name y py, .Name w pw] kt pt] (.Tuple [e, e2, e3] k2 pt2) pos.line X.env = pure false := by rfl)
    (hs1 : starEach [e, e2, e3] X.env = (false, eval e X.env) :: starEach [e2, e3] X.env := by rfl) (hs2 : starEach [e2, e3] X.env = (false, eval e2 X.env) :: starEach [e3] X.env := by rfl) (hs3 : starEach [e3] X.env = (false, eval e3 X.env) :: starEach [] X.env := by rfl) :
    QS X z L O (.Assign [.Tuple [.Name x px, .Name y py, .Name w pw] kt pt] (.Tuple [e, e2, e3] k2 pt2) pos) (sPar [i, j, l] (eCons f (eCons f2 (eCons f3 eNil)))) (outO [b, b2, b3] [i, j, l] O) :=
  ⟨PS.to (ps_par3 hc hN hi hj hl (fun e => by rw [e] at nd; simp at nd) (fun e => by rw [e] at nd; simp at nd) (fun e => by rw [e] at nd; simp at nd) hx hy hz (qxs_cons h1 (qxs_cons h2 (qxs_cons h3 qxs_nil hs3) hs2) hs1).pa hw hs) fun Dn σ H h => by
    obtain ⟨c, W, A, env, cp, F, p, q⟩ := par_go (nv := 3) nd nO nc rfl h
    refine ⟨c, W, A, env, cp, F, p, q.imp fun ds cp1 F1 H1 s1 e1 k W' vs as kW p1 hh fr => ?_⟩
    obtain ⟨hl, k⟩ := k W' vs as kW p1 hh fr
    match vs, hl, k with
    | [v, w, u], _, k => exact ⟨v, w, u, rfl, k H1 (.inl rfl)⟩⟩
/-! by way of a tuple: names that a comprehension takes, four names and more -/
structure QNs (X : Cx) (z : Z) (es : List Expr) (is : List Nat) : Prop where
  pg : ∃ t, PGs X es t ∧ ∀ (vs : List V) (σ : L2.St) (H : Hp) (Q : L2.St → Hp → Prop), vs.length = is.length → Q (setL σ is vs) H → t vs σ H Q
theorem qns_nil : QNs X z [] [] := ⟨_, pgs_nil, fun vs σ H Q hl q => by
  cases vs with
  | nil => exact ⟨rfl, q⟩
  | cons => cases hl⟩
theorem qns_cons (i : Nat) {x : Str} {p : Pos} {es : List Expr} {is : List Nat} (hN : X.N.Nodup) (h : QNs X z es is) (hi : X.N[i]? = some x := by rfl) (hx : Loc X.env.scope x := by first | exact Or.inl rfl | exact Or.inr rfl) (hf : X.fn x = true ∨ X.env.scope.names.lookup x = some .local := by first | exact .inl rfl | exact .inr rfl)
    (hh : (assignEach (.Name x p :: es) X.env).map (·.2) = assign (.Name x p) X.env :: (assignEach es X.env).map (·.2) := by rfl) : QNs X z (.Name x p :: es) (i :: is) := by
  obtain ⟨t, h, k⟩ := h
  refine ⟨_, pgs_cons (pg_name hN hi hx hf) h hh, fun vs σ H Q hl q => ?_⟩
  cases vs with
  | nil => cases hl
  | cons v vs => exact ⟨v, vs, rfl, k vs _ H Q (by simpa using hl) q⟩
theorem q_parT {bs : List Bool} {is : List Nat} {tg es : List Expr} {f : Evs} {pt pt2 pos : Pos} {kt k2 : Nat} (hc : X.calm = true) (h : QXs X z O bs es f) (g : QNs X z tg is)
    (nd : is.Nodup := by decide) (nO : ∀ k ∈ is, k ∉ O := by decide) (nc : ∀ k ∈ is, z.ci ≠ some k := by intro k hk h; cases h <;> revert hk <;> decide) (hl : is.length = bs.length := by rfl) (hlt : tg.length = bs.length := by rfl) (hsm : bs.length ≤ 1000 := by decide)
    (hs : swapsWithSole [.Tuple tg kt pt] (.Tuple es k2 pt2) pos.line X.env = pure false := by rfl) (hw : swappedStores [.Tuple tg kt pt] (.Tuple es k2 pt2) X.env = pure none := by rfl) (h1 : (assignEach [.Tuple tg kt pt] X.env).map (·.2) = [assign (.Tuple tg kt pt) X.env] := by rfl)
    (hn : (assignEach tg X.env).length = tg.length := by rfl) (hst : (assignEach tg X.env).findIdx? (·.1) = none := by rfl) :
    QS X z L O (.Assign [.Tuple tg kt pt] (.Tuple es k2 pt2) pos) (sPar is f) (outO bs is O) := by
  obtain ⟨t, g, k⟩ := g
  refine ⟨PS.to (ps_asg (pe_tup h.pa) (pg_tup hc g hn hst) hs hw h1) fun Dn σ H hh => ?_⟩
  obtain ⟨c, W, A, env, cp, F, p, q⟩ := par_go (nv := 0) nd nO nc hl hh
  refine ⟨c, W, A, env, cp, F, p, q.imp fun ds cp1 F1 H1 s1 e1 k1 W' vs as kW p1 hh fr => ?_⟩
  obtain ⟨hl2, k2⟩ := k1 W' vs as kW p1 hh fr
  refine ⟨by rw [hl2, sizeLine_eq]; omega, fun T hT => ?_⟩
  exact ⟨T, vs, rfl, .inl (.inl upd_same), by rw [hl2, hlt], k vs _ _ _ (by rw [hl2, hl]) (k2 _ (.inr ⟨T, _, hT, rfl⟩))⟩
end
end MP
namespace MP
open PySem PySem.Spec PyProof.Rows L2

theorem RpA.mapF {α : Type} {K : MpK} {F : Hp} {f : α → V} {g : α → D} (h : ∀ i, Rp K F (f i) (g i)) : ∀ l : List α, RpA K F (l.map f) (l.map g)
  | [] => .nil
  | a :: l => .cons (h a) (RpA.mapF h l)
theorem rg_rp {K : MpK} {F : Hp} (a b : Int) : RpA K F (rgV a b) (rangeL a (b - a).toNat) := RpA.mapF (fun i => .int _) _
theorem rgOk_of {a b : Int} (h1 : okR a = true) (h2 : okR b = true) (h : okLen (b - a).toNat = true) : RgOk a b := by
  simp only [okR, Bool.and_eq_true, decide_eq_true_eq] at h1 h2
  have := okLen_le h
  rw [sizeLine_eq] at this
  exact ⟨by omega, by omega, by omega, by omega, by omega⟩
section
variable {X : Cx} {z : Z} {O : List Nat}
theorem q_listRg1 {a : Expr} {p p2 pos pos2 : Pos} {f : Ev} (hc : X.calm = true) (ha : QE X z O a f) (hm : X.mg "list" = none) (hm2 : X.mg "range" = none) (hg : Gl X "list" := by rfl) (hg2 : Gl X "range" := by rfl) (na : starEach [a] X.env = (false, eval a X.env) :: starEach [] X.env := by rfl)
    (na2 : starEach [.Call (.Name "range" p2) [a] [] pos2] X.env = (false, eval (.Call (.Name "range" p2) [a] [] pos2) X.env) :: starEach [] X.env := by rfl) : QF X z O (.Call (.Name "list" p) [.Call (.Name "range" p2) [a] [] pos2] [] pos) (eLst (eRg1 f)) := by
  refine ⟨PE.to (pe_listRg hc hg hm (prg_1 hg2 hm2 ha.pe na) na2) ?_⟩
  rintro σ H Q ⟨c, W, A, env, cp, F, p, q⟩
  unfold eLst eRg1 at q
  rw [Res.bind_assoc] at q
  refine ⟨c, W, A, env, cp, F, p, (Aft.bind q).imp fun d cp1 F1 H1 s1 e1 q1 v r => ?_⟩
  have st := p.sit.step s1 e1
  cases d with
  | int j =>
    cases r
    dsimp only at q1
    split at q1
    · rename_i hh
      obtain ⟨h1, h2⟩ := Bool.and_eq_true_iff.mp hh
      have e0 : (j - 0) = j := by omega
      rw [← e0] at h2 q1
      refine ⟨j, rfl, rgOk_of rfl (by rw [e0] at *; exact h1) h2, fun pa hp => q1 F1 _ ((st.new hp)) ((st.keepc hp).trans e1) _ ((fr_new st hp (by rw [rgV_length]; exact okLen_le h2) (rg_rp _ _)).back s1 e1)⟩
    · exact q1.elim
  | _ => exact q1.elim
theorem q_listRg2 {a b : Expr} {p p2 pos pos2 : Pos} {f g : Ev} (hc : X.calm = true) (ha : QE X z O a f) (hb : QE X z O b g) (hm : X.mg "list" = none) (hm2 : X.mg "range" = none) (hg : Gl X "list" := by rfl) (hg2 : Gl X "range" := by rfl) (na : starEach [a, b] X.env = (false, eval a X.env) :: starEach [b] X.env := by rfl) (nb : starEach [b] X.env = (false, eval b X.env) :: starEach [] X.env := by rfl) (hp : (backTo pos2 (starEach [b] X.env)).any (·.1) = false := by rfl)
    (na2 : starEach [.Call (.Name "range" p2) [a, b] [] pos2] X.env = (false, eval (.Call (.Name "range" p2) [a, b] [] pos2) X.env) :: starEach [] X.env := by rfl) : QF X z O (.Call (.Name "list" p) [.Call (.Name "range" p2) [a, b] [] pos2] [] pos) (eLst (eRg2 f g)) := by
  refine ⟨PE.to (pe_listRg hc hg hm (prg_2 hg2 hm2 ha.pe hb.pe na nb hp) na2) ?_⟩
  rintro σ H Q ⟨c, W, A, env, cp, F, p, q⟩
  unfold eLst eRg2 at q
  rw [Res.bind_assoc] at q
  refine ⟨c, W, A, env, cp, F, p, (Aft.bind q).imp fun d cp1 F1 H1 s1 e1 q1 v r => ?_⟩
  rw [Res.bind_assoc] at q1
  refine ⟨c, W, A, env, cp1, F1, p.step s1 e1, (Aft.bind q1).imp fun d2 cp2 F2 H2 s2 e2 q2 v2 r2 => ?_⟩
  have st := (p.sit.step s1 e1).step s2 e2
  cases d with
  | int i =>
    cases d2 with
    | int j =>
      cases r
      cases r2
      dsimp only at q2
      split at q2
      · rename_i hh
        obtain ⟨h1, h2⟩ := Bool.and_eq_true_iff.mp hh
        obtain ⟨h0, h1⟩ := Bool.and_eq_true_iff.mp h1
        refine ⟨i, j, rfl, rfl, rgOk_of h0 h1 h2, fun pa hp => q2 F2 _ ((st.new hp)) ((st.keepc hp).trans e2) _ (((fr_new st hp (by rw [rgV_length]; exact okLen_le h2) (rg_rp _ _)).back s2 e2).back s1 e1)⟩
      · exact q2.elim
    | _ => exact q2.elim
  | _ => exact q2.elim
theorem q_tupleRg1 {a : Expr} {p p2 pos pos2 : Pos} {f : Ev} (hc : X.calm = true) (ha : QE X z O a f) (hm : X.mg "tuple" = none) (hm2 : X.mg "range" = none) (hg : Gl X "tuple" := by rfl) (hg2 : Gl X "range" := by rfl) (na : starEach [a] X.env = (false, eval a X.env) :: starEach [] X.env := by rfl)
    (na2 : starEach [.Call (.Name "range" p2) [a] [] pos2] X.env = (false, eval (.Call (.Name "range" p2) [a] [] pos2) X.env) :: starEach [] X.env := by rfl) : QE X z O (.Call (.Name "tuple" p) [.Call (.Name "range" p2) [a] [] pos2] [] pos) (eTup (eRg1 f)) := by
  refine ⟨PE.to (pe_tupRg hc hg hm (prg_1 hg2 hm2 ha.pe na) na2) ?_⟩
  rintro σ H Q ⟨c, W, A, env, cp, F, p, q⟩
  unfold eTup eRg1 at q
  rw [Res.bind_assoc] at q
  refine ⟨c, W, A, env, cp, F, p, (Aft.bind q).imp fun d cp1 F1 H1 s1 e1 q1 v r => ?_⟩
  have st := p.sit.step s1 e1
  cases d with
  | int j =>
    cases r
    dsimp only at q1
    split at q1
    · rename_i hh
      obtain ⟨h1, h2⟩ := Bool.and_eq_true_iff.mp hh
      have e0 : (j - 0) = j := by omega
      rw [← e0] at h2 q1
      refine ⟨j, rfl, rgOk_of rfl (by rw [e0] at *; exact h1) h2, fun pa hp => q1 _ _ (st.newF hp) ((st.keepc hp).trans e1) _ (.tup (.inl (.inl upd_same)) (by rw [rgV_length]; exact okLen_le h2) (rg_rp _ _))⟩
    · exact q1.elim
  | _ => exact q1.elim
theorem q_tupleRg2 {a b : Expr} {p p2 pos pos2 : Pos} {f g : Ev} (hc : X.calm = true) (ha : QE X z O a f) (hb : QE X z O b g) (hm : X.mg "tuple" = none) (hm2 : X.mg "range" = none) (hg : Gl X "tuple" := by rfl) (hg2 : Gl X "range" := by rfl) (na : starEach [a, b] X.env = (false, eval a X.env) :: starEach [b] X.env := by rfl) (nb : starEach [b] X.env = (false, eval b X.env) :: starEach [] X.env := by rfl) (hp : (backTo pos2 (starEach [b] X.env)).any (·.1) = false := by rfl)
    (na2 : starEach [.Call (.Name "range" p2) [a, b] [] pos2] X.env = (false, eval (.Call (.Name "range" p2) [a, b] [] pos2) X.env) :: starEach [] X.env := by rfl) : QE X z O (.Call (.Name "tuple" p) [.Call (.Name "range" p2) [a, b] [] pos2] [] pos) (eTup (eRg2 f g)) := by
  refine ⟨PE.to (pe_tupRg hc hg hm (prg_2 hg2 hm2 ha.pe hb.pe na nb hp) na2) ?_⟩
  rintro σ H Q ⟨c, W, A, env, cp, F, p, q⟩
  unfold eTup eRg2 at q
  rw [Res.bind_assoc] at q
  refine ⟨c, W, A, env, cp, F, p, (Aft.bind q).imp fun d cp1 F1 H1 s1 e1 q1 v r => ?_⟩
  rw [Res.bind_assoc] at q1
  refine ⟨c, W, A, env, cp1, F1, p.step s1 e1, (Aft.bind q1).imp fun d2 cp2 F2 H2 s2 e2 q2 v2 r2 => ?_⟩
  have st := (p.sit.step s1 e1).step s2 e2
  cases d with
  | int i =>
    cases d2 with
    | int j =>
      cases r
      cases r2
      dsimp only at q2
      split at q2
      · rename_i hh
        obtain ⟨h1, h2⟩ := Bool.and_eq_true_iff.mp hh
        obtain ⟨h0, h1⟩ := Bool.and_eq_true_iff.mp h1
        refine ⟨i, j, rfl, rfl, rgOk_of h0 h1 h2, fun pa hp => q2 _ _ (st.newF hp) ((st.keepc hp).trans e2) _ (.tup (.inl (.inl upd_same)) (by rw [rgV_length]; exact okLen_le h2) (rg_rp _ _))⟩
      · exact q2.elim
    | _ => exact q2.elim
  | _ => exact q2.elim
/-! [::-1] of a list -/
def eRev (f : Ev) : Ev := fun env cp => (f env cp).bind fun d cp1 => match d with
  | .list ds => .ok (.list ds.reverse) cp1
  | _ => .bad
theorem q_rev {e : Expr} {f : Ev} {k : Nat} {p1 p2 p3 pos : Pos} (h : QP X z O e f) : QF X z O (.Subscript e (.Slice none none (some (.UnaryOp .USub (.Constant (.int 1) k p1) p2)) p3) pos) (eRev f) := by
  refine ⟨PE.to (pe_revL h.pe) ?_⟩
  rintro σ H Q ⟨c, W, A, env, cp, F, p, q⟩
  refine ⟨c, W, A, env, cp, F, p, (Aft.bind q).imp fun d cp1 F1 H1 s1 e1 q1 v r => ?_⟩
  have st := p.sit.step s1 e1
  cases d with
  | list ds =>
    obtain ⟨a, vs, rfl, h1, hl, h2⟩ := r.list s1.sub
    exact ⟨a, vs, rfl, SqL.of h1, fun pa hp => q1 F1 _ (st.new hp) ((st.keepc hp).trans e1) _ ((fr_new st hp (by rw [List.length_reverse]; exact hl) h2.reverse).back s1 e1)⟩
  | _ => exact q1.elim
end
end MP
namespace MP
open PySem PySem.Spec PyProof.Rows L2

/-! ## defs by the top's table -/
abbrev sNever : Sv := fun _ _ => .bad
abbrev eJoin (a : Str) (g : Ev) : Ev := eCa (fun ds => match ds with | [d] => dJoin (.str a) d | _ => none) (eCons g eNil)
def FnD (K : PySem.W.Frag) (mg : Str → Option Value) (x : Str) (st : Stmt) (ps : List Str) : Prop := ∃ f fd, Fun K x x st f fd ∧ mg x = some (.ref f) ∧ Binds K fd ps []
def GC (mg : Str → Option Value) (x : Str) (v : V) : Prop := ∃ u, mg x = some u ∧ RelV v u
theorem q_gintC {X : Cx} {z : Z} {O : List Nat} {x : Str} {i : Int} {pos : Pos} (h : GC X.mg x (.int i)) (hg : Gl X x := by rfl) (hd : (x == ("__debug__" : Str)) = false := by decide) : QE X z O (.Name x pos) (eC (.int i)) := by
  obtain ⟨u, hm, r⟩ := h
  exact q_gint hm r hg hd
theorem q_gstrC {X : Cx} {z : Z} {O : List Nat} {x : Str} {i : Str} {pos : Pos} (h : GC X.mg x (.str i)) (hk : sOk i := by exact ⟨by decide +kernel, by decide +kernel⟩) (hg : Gl X x := by rfl) (hd : (x == ("__debug__" : Str)) = false := by decide) : QE X z O (.Name x pos) (eC (.str i)) := by
  obtain ⟨u, hm, r⟩ := h
  exact q_gstr hm r hk hg hd
section
variable {P : Program} {w : World} {K : PySem.W.Frag} {mg : Str → Option Value} {base : Heap}
theorem fnv_of {x : Str} {st : Stmt} {N ps : List Str} {k : Nat} {uc : Bool} {sv : Sv} {O' : List Nat} (D : FnD K mg x st ps) (S : FnScope N ps (defScope st))
    (hbody : ∀ (cdv : Value) (f : Addr) (A : Around) (outer : List PySem.Env) (s : Shared) (H : Hp) (E : XK), Room k (A.deeper (envOfC x (defScope st) s.heap.objs.size f cdv)) → (cxD P w K mg base N x st f cdv A outer s H E).A.units + 65 < cLine → (cxD P w K mg base N x st f cdv A outer s H E).A.units + 67 < cLine →
      (cxD P w K mg base N x st f cdv A outer s H E).calm = true → (cxD P w K mg base N x st f cdv A outer s H E).N.Nodup → ZP (cxD P w K mg base N x st f cdv A outer s H E) ⟨Er mg E, ciOf uc⟩ →
      PassesOwn (model P w) (cxD P w K mg base N x st f cdv A outer s H E).A (cxD P w K mg base N x st f cdv A outer s H E).env (cxD P w K mg base N x st f cdv A outer s H E).xe →
      QSs (cxD P w K mg base N x st f cdv A outer s H E) ⟨Er mg E, ciOf uc⟩ [] [] (defBody st) sv O') (hN : ps.length ≤ N.length := by decide) : FnV P w K mg base (k + 1) x ps uc (mean uc N.length sv) := by
  obtain ⟨f, fd, F, hm, hb⟩ := D
  refine fnv_mk F S hm hb hN fun cdv A outer s H E hr => hbody cdv f A outer s H E hr ?_ ?_ rfl S.nd zp_def po_def
  · have := hr.un
    show (A.deeper (envOfC x (defScope st) s.heap.objs.size f cdv)).units + 65 < cLine
    omega
  · have := hr.un
    show (A.deeper (envOfC x (defScope st) s.heap.objs.size f cdv)).units + 67 < cLine
    omega
theorem qss_never {X : Cx} {z : Z} {L O O' : List Nat} {sts : List Stmt} : QSs X z L O sts (fun _ _ => .bad) O' := ⟨⟨fun pins s σ H Dn I ⟨c, W0, F0, H0, env, cp, p, q⟩ => q.elim⟩⟩
theorem fnv_never {x : Str} {st : Stmt} {N ps : List Str} {k : Nat} {uc : Bool} (D : FnD K mg x st ps) (S : FnScope N ps (defScope st)) (hN : ps.length ≤ N.length := by decide) : FnV P w K mg base (k + 1) x ps uc (fun _ _ => .bad) :=
  fnv_of (O' := []) D S (fun _ _ _ _ _ _ _ _ _ _ _ _ _ _ => qss_never) hN
theorem law_top {st : Stmt} (h0 : Heap) {fa : Addr} {k : Nat} (hfa : mg "law" = some (.ref fa)) (hfd : ∀ (s : Shared) (v : Value) (f : Addr) (fd : FuncData), Fun K "law" "law" st f fd → BindsTo s fd ⟨[v], []⟩ [("script", v)])
    (h : ∀ base : Heap, ∃ f fd, mg "law" = some (.ref f) ∧ Fun K "law" "law" st f fd ∧ FnOk P w K mg base (L2.CX P w) k f fd ["script"] (spLawV K)) :
    ∃ fd : FuncData, (∀ (s : Shared) (u : Value), BindsTo s fd ⟨[u], []⟩ [("script", u)]) ∧ ∀ base : Heap, K.In base → base.Ns mainGlobals mg → FnOk P w K mg base (L2.CX P w) k fa fd ["script"] (spLawV K) := by
  obtain ⟨f0, fd0, h1, h2, _⟩ := h h0
  rw [hfa] at h1
  cases h1
  refine ⟨fd0, fun s u => hfd s u _ _ h2, fun base _ _ => ?_⟩
  obtain ⟨f, fd, k1, k2, k3⟩ := h base
  rw [hfa] at k1
  cases k1
  obtain ⟨oc, od, kV, doc, pm, an, cdv, ct, osl, e1, lk, hcd⟩ := h2.ex
  obtain ⟨oc', od', kV', doc', pm', an', cdv', ct', osl', e1', lk', hcd'⟩ := k2.ex
  rw [lk] at lk'
  cases lk'
  exact k3
end
end MP
namespace PySem.W
open PySem PySem.SeqAt PyProof.Rows PySem.Spec
section
variable {prog : Program} {w : World} {A : Around} {E : Value → Shared → Prop} {s : Shared}
theorem mp_min_twoH {a b : Value} {Q : Value → Shared → Prop}
    (h : wpAny (model prog w) A.in1 (pyIter (.ref s.heap.objs.size)) (fun it s₂ => ∃ I fp wr G n P St H bt, it = .ref I ∧ WalksS prog w A.in1 I fp wr G n P St ∧ St 0 s₂ ∧ (∀ b ∈ fp, b < s₂.heap.objs.size) ∧ 0 < n ∧
      (∀ b o, H.get? b = some o → b ∉ wr) ∧ (∀ b o, H.get? b = some o → s₂.heap.get? b = some o) ∧ CmpIn prog w A.in1 .Lt H P bt ∧ ∀ v s', P (argBest bt (n - 1)) v → Moved wr G s₂ s' → Q v s') E
      { s with heap := s.heap.push { cls := .type "tuple", data := .seq #[a, b] } }) :
    wpAny (model prog w) A (call (.builtin "min") [a, b]) Q E s := by
  have hname : (toString "min" ++ toString ".loop" : String) = "min.loop" := by decide
  refine call_function_tree F.kind_min F.plain_min F.entry_min (F.args_min2 _ _) ?_
  show wpAny _ A.in1 (Builtin.Builtins.bindParams "min" ["key", "default"] 0 ⟨[], []⟩ >>= _) _ _ s
  refine wpAny_bind (wpAny_of_eq (show Builtin.Builtins.bindParams "min" ["key", "default"] 0 ⟨[], []⟩ = pure [none, none] from rfl) ?_)
  show wpAny _ A.in1 (newTuple [a, b] >>= _) _ _ s
  refine wpAny_bind (wpAny_newObj_type ?_)
  refine wpAny_bind (wpAny_mono h (fun it s₂ h₂ => ?_) fun _ _ e => e)
  obtain ⟨I, fp, wr, G, n, P, St, H, bt, rfl, W, hst, hfp, hn, hw, hkeep, hcmp, hQ⟩ := h₂
  refine wpAny_bind (wpAny_newObj_type ?_)
  have hSf : s₂.heap.objs.size ∉ fp := fun hm => Nat.lt_irrefl _ (hfp _ hm)
  rw [hname]
  refine wpAny_pure ⟨plainId_quiet F.plain_min_loop _, codeAny_min_loop_firstH W H hw bt hcmp s₂.heap.objs.size hSf (fresh_in hkeep) _ hn (fun b o e => Heap.get?_push_of_some _ (hkeep b o e)) (W.frame 0 s₂ _ s₂.toks hst (Nat.le_refl _) fun b _ o e => Heap.get?_push_of_some _ e) (Heap.get?_push_size _ rfl) fun v s' hP hm => ?_⟩
  exact hQ v s' hP (Moved.drop_new (tk := s₂.toks) hm (Nat.le_refl _))
theorem mp_max_twoH {a b : Value} {Q : Value → Shared → Prop}
    (h : wpAny (model prog w) A.in1 (pyIter (.ref s.heap.objs.size)) (fun it s₂ => ∃ I fp wr G n P St H bt, it = .ref I ∧ WalksS prog w A.in1 I fp wr G n P St ∧ St 0 s₂ ∧ (∀ b ∈ fp, b < s₂.heap.objs.size) ∧ 0 < n ∧
      (∀ b o, H.get? b = some o → b ∉ wr) ∧ (∀ b o, H.get? b = some o → s₂.heap.get? b = some o) ∧ CmpIn prog w A.in1 .Gt H P bt ∧ ∀ v s', P (argBest bt (n - 1)) v → Moved wr G s₂ s' → Q v s') E
      { s with heap := s.heap.push { cls := .type "tuple", data := .seq #[a, b] } }) :
    wpAny (model prog w) A (call (.builtin "max") [a, b]) Q E s := by
  have hname : (toString "max" ++ toString ".loop" : String) = "max.loop" := by decide
  refine call_function_tree F.kind_max F.plain_max F.entry_max (F.args_max2 _ _) ?_
  show wpAny _ A.in1 (Builtin.Builtins.bindParams "max" ["key", "default"] 0 ⟨[], []⟩ >>= _) _ _ s
  refine wpAny_bind (wpAny_of_eq (show Builtin.Builtins.bindParams "max" ["key", "default"] 0 ⟨[], []⟩ = pure [none, none] from rfl) ?_)
  show wpAny _ A.in1 (newTuple [a, b] >>= _) _ _ s
  refine wpAny_bind (wpAny_newObj_type ?_)
  refine wpAny_bind (wpAny_mono h (fun it s₂ h₂ => ?_) fun _ _ e => e)
  obtain ⟨I, fp, wr, G, n, P, St, H, bt, rfl, W, hst, hfp, hn, hw, hkeep, hcmp, hQ⟩ := h₂
  refine wpAny_bind (wpAny_newObj_type ?_)
  have hSf : s₂.heap.objs.size ∉ fp := fun hm => Nat.lt_irrefl _ (hfp _ hm)
  rw [hname]
  refine wpAny_pure ⟨plainId_quiet F.plain_max_loop _, codeAny_max_loop_firstH W H hw bt hcmp s₂.heap.objs.size hSf (fresh_in hkeep) _ hn (fun b o e => Heap.get?_push_of_some _ (hkeep b o e)) (W.frame 0 s₂ _ s₂.toks hst (Nat.le_refl _) fun b _ o e => Heap.get?_push_of_some _ e) (Heap.get?_push_size _ rfl) fun v s' hP hm => ?_⟩
  exact hQ v s' hP (Moved.drop_new (tk := s₂.toks) hm (Nat.le_refl _))
theorem mp_min_data {a b : Value} {da db : PyData} {as bs : List Addr} {Q : Value → Shared → Prop} (hh : A.handled = none) (ra : Reads s.heap a da as) (rb : Reads s.heap b db bs) (ha : AlikeAll [da, db]) (hu : A.units + 1 + PyData.depthAll [da, db] < cLine)
    (h : ∀ h' tk, (∀ b o, s.heap.get? b = some o → h'.get? b = some o) → Q (if dataLt db da then b else a) { s with heap := h', toks := tk }) : wpAny (model prog w) A (call (.builtin "min") [a, b]) Q E s := by
  refine mp_min_twoH ?_
  have kp : ∀ c o, s.heap.get? c = some o → (s.heap.push ({ cls := .type "tuple", data := .seq #[a, b] } : Obj)).get? c = some o := fun c o e => Heap.get?_push_of_some _ e
  have hr : ReadsAll (s.heap.push ({ cls := .type "tuple", data := .seq #[a, b] } : Obj)) #[a, b].toList [da, db] (as ++ (bs ++ [])) := .cons (Reads.keeps kp ra) (.cons (Reads.keeps kp rb) .nil)
  refine iter_tupleW (A := A.in1) (s := { s with heap := s.heap.push { cls := .type "tuple", data := .seq #[a, b] } }) (vs := #[a, b]) hh ⟨_, Heap.get?_push_size _ rfl, rfl, 0, rfl⟩ fun s₂ e W st hfp hw hk => ?_
  refine ⟨_, _, _, _, _, _, _, (s.heap.push ({ cls := .type "tuple", data := .seq #[a, b] } : Obj)), _, rfl, W, st, hfp, (by show 0 < 2; decide), hw, hk, cmpIn_lt (A := A.in1) (s := { s with heap := s.heap.push { cls := .type "tuple", data := .seq #[a, b] } }) hr ha (by show A.units + 1 + _ < _; exact hu), fun v s' hP m => ?_⟩
  obtain ⟨h', tk, rfl, hk'⟩ := moved_old e rfl m
  have hv : v = if dataLt db da then b else a := by
    have hP' : #[a, b][argBest (fun i j => dataLt ([da, db].getD i .none) ([da, db].getD j .none)) 1]? = some v := hP
    have e1 : argBest (fun i j => dataLt ([da, db].getD i .none) ([da, db].getD j .none)) 1 = if dataLt db da then 1 else 0 := rfl
    rw [e1] at hP'
    by_cases hb : dataLt db da = true
    · rw [if_pos hb] at hP' ⊢
      exact (Option.some.inj hP').symm
    · rw [if_neg hb] at hP' ⊢
      exact (Option.some.inj hP').symm
  subst hv
  exact h h' tk fun c o ec => hk' c o (kp c o ec)
theorem mp_max_data {a b : Value} {da db : PyData} {as bs : List Addr} {Q : Value → Shared → Prop} (hh : A.handled = none) (ra : Reads s.heap a da as) (rb : Reads s.heap b db bs) (ha : AlikeAll [da, db]) (hu : A.units + 1 + PyData.depthAll [da, db] < cLine)
    (h : ∀ h' tk, (∀ b o, s.heap.get? b = some o → h'.get? b = some o) → Q (if dataLt da db then b else a) { s with heap := h', toks := tk }) : wpAny (model prog w) A (call (.builtin "max") [a, b]) Q E s := by
  refine mp_max_twoH ?_
  have kp : ∀ c o, s.heap.get? c = some o → (s.heap.push ({ cls := .type "tuple", data := .seq #[a, b] } : Obj)).get? c = some o := fun c o e => Heap.get?_push_of_some _ e
  have hr : ReadsAll (s.heap.push ({ cls := .type "tuple", data := .seq #[a, b] } : Obj)) #[a, b].toList [da, db] (as ++ (bs ++ [])) := .cons (Reads.keeps kp ra) (.cons (Reads.keeps kp rb) .nil)
  refine iter_tupleW (A := A.in1) (s := { s with heap := s.heap.push { cls := .type "tuple", data := .seq #[a, b] } }) (vs := #[a, b]) hh ⟨_, Heap.get?_push_size _ rfl, rfl, 0, rfl⟩ fun s₂ e W st hfp hw hk => ?_
  refine ⟨_, _, _, _, _, _, _, (s.heap.push ({ cls := .type "tuple", data := .seq #[a, b] } : Obj)), _, rfl, W, st, hfp, (by show 0 < 2; decide), hw, hk, cmpIn_gt (A := A.in1) (s := { s with heap := s.heap.push { cls := .type "tuple", data := .seq #[a, b] } }) hr ha (by show A.units + 1 + _ < _; exact hu), fun v s' hP m => ?_⟩
  obtain ⟨h', tk, rfl, hk'⟩ := moved_old e rfl m
  have hv : v = if dataLt da db then b else a := by
    have hP' : #[a, b][argBest (fun i j => dataLt ([da, db].getD j .none) ([da, db].getD i .none)) 1]? = some v := hP
    have e1 : argBest (fun i j => dataLt ([da, db].getD j .none) ([da, db].getD i .none)) 1 = if dataLt da db then 1 else 0 := rfl
    rw [e1] at hP'
    by_cases hb : dataLt da db = true
    · rw [if_pos hb] at hP' ⊢
      exact (Option.some.inj hP').symm
    · rw [if_neg hb] at hP' ⊢
      exact (Option.some.inj hP').symm
  subst hv
  exact h h' tk fun c o ec => hk' c o (kp c o ec)
end
end PySem.W
namespace MP
open PySem PySem.Spec PyProof.Rows L2
section
variable {X : Cx}
mutual
theorem alike_refl0 : ∀ d : D, d.canLay0 = true → PySem.W.alike d d = true
  | .none, _ => rfl
  | .bool _, _ => rfl
  | .int _, _ => rfl
  | .str _, _ => rfl
  | .list xs, h => by rw [PySem.W.alike]; exact alikeAll_refl0 xs (by simpa [PyData.canLay0] using h)
  | .tuple xs, h => by rw [PySem.W.alike]; exact alikeAll_refl0 xs (by simpa [PyData.canLay0] using h)
  | .dict _, h => by simp [PyData.canLay0] at h
theorem alikeAll_refl0 : ∀ xs : List D, PyData.canLayAll0 xs = true → PySem.W.alikeAll xs xs = true
  | [], _ => rfl
  | x :: xs, h => by
    have h' := Bool.and_eq_true_iff.mp (by simpa only [PyData.canLayAll0] using h)
    rw [PySem.W.alikeAll, alike_refl0 x h'.1, alikeAll_refl0 xs h'.2]
    rfl
end
theorem alike_refl {d : D} (h : d.canLay0 = true) (_ : d ≠ .none) : PySem.W.alike d d = true := alike_refl0 d h
def rMinD (K : MpK) : List V → Hp → VK → Prop := fun xs H Q => ∃ x y da db, xs = [x, y] ∧ Dp K H x da ∧ Dp K H y db ∧ cmpOk da db = true ∧ cmpOk db da = true ∧ Q (if PySem.W.dataLt db da then y else x) H
theorem cr_minD (hu : X.A.units + 67 < cLine) (hc : X.calm = true) : CallR X (.builtin "min") (rMinD X.kk) := by
  intro pins s σ H xs us Q I r h
  obtain ⟨x, y, da, db, rfl, h1, h2, k1, k2, q⟩ := h
  obtain ⟨u, v, rfl, r1, r2⟩ := vals2 r
  obtain ⟨as, ra⟩ := Dp.reads I da x u h1 r1
  obtain ⟨bs, rb⟩ := Dp.reads I db y v h2 r2
  obtain ⟨a1, a2, a3, a4, a5⟩ := cmpOk_of k1
  obtain ⟨b1, b2, b3, b4, b5⟩ := cmpOk_of k2
  refine PySem.W.mp_min_data (I.ok.hd hc) ra rb ⟨fun d hd e he => ?_, fun d hd => ?_⟩ ?_ fun h' tk kp => ⟨_, H, I.kept kp, ?_, q⟩
  · rcases List.mem_cons.mp hd with rfl | hd
    · rcases List.mem_cons.mp he with rfl | he
      · exact alike_refl a1 a4
      · obtain rfl := List.mem_singleton.mp he
        exact a3
    · obtain rfl := List.mem_singleton.mp hd
      rcases List.mem_cons.mp he with rfl | he
      · exact b3
      · obtain rfl := List.mem_singleton.mp he
        exact alike_refl b1 b4
  · rcases List.mem_cons.mp hd with rfl | hd
    · exact a4
    · obtain rfl := List.mem_singleton.mp hd
      exact b4
  · have : PyData.depthAll [da, db] ≤ 64 := by
      simp only [PyData.depthAll]
      omega
    show X.A.units + 1 + _ < _
    omega
  · by_cases hb : PySem.W.dataLt db da = true
    · rw [if_pos hb, if_pos hb]; exact r2
    · rw [if_neg hb, if_neg hb]; exact r1
/-- min of a tuple of ints -/
def rMinT (K : MpK) : List V → Hp → VK → Prop := fun xs H Q => ∃ (a : Addr) (n : Int) (ns : List Int), xs = [.ref a] ∧ SqT K H a ((n :: ns).map V.int) ∧ Q (.int (ns.foldl min n)) H
theorem cr_minT (hu : X.A.units + 67 < cLine) (hc : X.calm = true) : CallR X (.builtin "min") (rMinT X.kk) := by
  intro pins s σ H xs us Q I r h
  obtain ⟨a, n, ns, rfl, hs, q⟩ := h
  rw [Vals.ref1 r]
  obtain ⟨its, rv, hl, hz⟩ := I.tuple hs
  have hd : ∀ l : List Int, DpAll X.kk H (l.map V.int) (l.map PyData.int) := fun l => by
    induction l with
    | nil => exact .nil
    | cons i l ih => exact .cons (.int i) ih
  obtain ⟨as, ra⟩ := Dp.readsAll I _ _ _ (hd (n :: ns)) rv
  have hdep : ∀ l : List Int, PyData.depthAll (l.map PyData.int) = 0 := fun l => by
    induction l with
    | nil => rfl
    | cons i l ih => rw [List.map_cons, PyData.depthAll, ih]; rfl
  refine PySem.W.min_tuple_data (vs := its.toArray) (x := .int n) (xs := ns.map PyData.int) (I.ok.hd hc) hl (by simpa using ra) ⟨fun d hd e he => ?_, fun d hd => ?_⟩ ?_ fun i v h' tk bs hv rd kp => ⟨.int (ns.foldl min n), H, I.kept kp, ?_, q⟩
  · have hd : d ∈ (n :: ns).map PyData.int := hd
    have he : e ∈ (n :: ns).map PyData.int := he
    obtain ⟨j, _, rfl⟩ := List.mem_map.mp hd
    obtain ⟨l, _, rfl⟩ := List.mem_map.mp he
    rfl
  · have hd : d ∈ (n :: ns).map PyData.int := hd
    obtain ⟨j, _, rfl⟩ := List.mem_map.mp hd
    exact fun z => by cases z
  · have : PyData.depthAll (.int n :: ns.map PyData.int) = 0 := hdep (n :: ns)
    rw [this]
    show X.A.units + 1 + 0 < _
    omega
  · rw [PySem.W.minD_ints] at rd
    cases rd with
    | int i t => exact ⟨t, rfl⟩
def bMin1 : List D → Option D
  | [.tuple ds] => (intsOf ds).bind fun bs => match bs with
    | n :: ns => some (.int (ns.foldl min n))
    | [] => none
  | _ => none
theorem cas_min1 (hu2 : X.A.units + 67 < cLine) (hc : X.calm = true) : CaS X (.builtin "min") bMin1 := by
  refine ⟨_, cr_minT hu2 hc, fun c W F H xs ds d Q st r e q => ?_⟩
  match ds, e with
  | [.tuple ds], e =>
    have ro := r.one; clear r; obtain ⟨v, rfl, r⟩ := ro
    obtain ⟨a1, v1, rfl, h1, l1, r1⟩ := (r.flat rfl).tupI
    have e : ((intsOf ds).bind fun bs => match bs with
      | n :: ns => some (PyData.int (ns.foldl min n))
      | [] => none) = some d := e
    cases e1 : intsOf ds with
    | none => rw [e1] at e; cases e
    | some bs =>
      obtain rfl := ints_eq e1
      rw [e1] at e
      obtain rfl := r1.intz
      cases bs with
      | nil => cases e
      | cons n ns =>
        have e : some (PyData.int (ns.foldl min n)) = some d := e
        cases e
        exact ⟨a1, n, ns, rfl, SqT_same st.sub h1, q F H _ st.refl rfl (fr_flat (.int _))⟩
/-- min of two: ints, or any data -/
def bMinP : List D → Option D
  | [da, db] => if cmpOk da db && cmpOk db da && !isBox da && !isBox db then some (if PySem.W.dataLt db da then db else da) else none
  | _ => none
def bMin2 : List D → Option D
  | [.tuple xs, .tuple ys] => bMinP [.tuple xs, .tuple ys]
  | [.str xs, .str ys] => bMinP [.str xs, .str ys]
  | [.tuple xs] => bMin1 [.tuple xs]
  | ds => bMin ds
theorem cas_min2 (hu : X.A.units + 65 < cLine) (hu2 : X.A.units + 67 < cLine) (hc : X.calm = true) : CaS X (.builtin "min") bMin2 := by
  refine CaS.or2 (CaS.or2 (k := fun ds => match ds with | [.tuple xs] => bMin1 [.tuple xs] | ds => bMin ds) (cas_min hc) (cas_min1 hu2 hc) fun ds d e => by
    split at e
    · exact .inr e
    · exact .inl e) (h := bMinP) ⟨_, cr_minD hu2 hc, fun c W F H xs ds d Q st r e q => ?_⟩ fun ds d e => ?_
  · match ds, e with
    | [da, db], e =>
      have ro := r.two; clear r; obtain ⟨v, w, rfl, r, r'⟩ := ro
      obtain ⟨h, rfl⟩ := if_some e
      obtain ⟨h, n2⟩ := Bool.and_eq_true_iff.mp h
      obtain ⟨h, n1⟩ := Bool.and_eq_true_iff.mp h
      obtain ⟨k1, k2⟩ := Bool.and_eq_true_iff.mp h
      have n1 : isBox da = false := by simpa using n1
      have n2 : isBox db = false := by simpa using n2
      refine ⟨v, w, da, db, rfl, r.dp st.sub (cmpOk_of k1).1, r'.dp st.sub (cmpOk_of k1).2.1, k1, k2, ?_⟩
      by_cases hb : PySem.W.dataLt db da = true
      · rw [if_pos hb] at q ⊢
        exact q F H _ st.refl rfl (fr_flat (r'.flat n2) n2)
      · rw [if_neg hb] at q ⊢
        exact q F H _ st.refl rfl (fr_flat (r.flat n1) n1)
  · unfold bMin2 at e
    split at e
    · exact .inr e
    · exact .inr e
    · exact .inl e
    · rename_i h1 h2 h3
      refine .inl ?_
      split
      · rename_i xs
        exact absurd rfl (h3 xs)
      · exact e
def rMaxD (K : MpK) : List V → Hp → VK → Prop := fun xs H Q => ∃ x y da db, xs = [x, y] ∧ Dp K H x da ∧ Dp K H y db ∧ cmpOk da db = true ∧ cmpOk db da = true ∧ Q (if PySem.W.dataLt da db then y else x) H
theorem cr_maxD (hu : X.A.units + 67 < cLine) (hc : X.calm = true) : CallR X (.builtin "max") (rMaxD X.kk) := by
  intro pins s σ H xs us Q I r h
  obtain ⟨x, y, da, db, rfl, h1, h2, k1, k2, q⟩ := h
  obtain ⟨u, v, rfl, r1, r2⟩ := vals2 r
  obtain ⟨as, ra⟩ := Dp.reads I da x u h1 r1
  obtain ⟨bs, rb⟩ := Dp.reads I db y v h2 r2
  obtain ⟨a1, a2, a3, a4, a5⟩ := cmpOk_of k1
  obtain ⟨b1, b2, b3, b4, b5⟩ := cmpOk_of k2
  refine PySem.W.mp_max_data (I.ok.hd hc) ra rb ⟨fun d hd e he => ?_, fun d hd => ?_⟩ ?_ fun h' tk kp => ⟨_, H, I.kept kp, ?_, q⟩
  · rcases List.mem_cons.mp hd with rfl | hd
    · rcases List.mem_cons.mp he with rfl | he
      · exact alike_refl a1 a4
      · obtain rfl := List.mem_singleton.mp he
        exact a3
    · obtain rfl := List.mem_singleton.mp hd
      rcases List.mem_cons.mp he with rfl | he
      · exact b3
      · obtain rfl := List.mem_singleton.mp he
        exact alike_refl b1 b4
  · rcases List.mem_cons.mp hd with rfl | hd
    · exact a4
    · obtain rfl := List.mem_singleton.mp hd
      exact b4
  · have : PyData.depthAll [da, db] ≤ 64 := by
      simp only [PyData.depthAll]
      omega
    show X.A.units + 1 + _ < _
    omega
  · by_cases hb : PySem.W.dataLt da db = true
    · rw [if_pos hb, if_pos hb]; exact r2
    · rw [if_neg hb, if_neg hb]; exact r1
/-- max of a tuple of ints -/
def rMaxT (K : MpK) : List V → Hp → VK → Prop := fun xs H Q => ∃ (a : Addr) (n : Int) (ns : List Int), xs = [.ref a] ∧ SqT K H a ((n :: ns).map V.int) ∧ Q (.int (ns.foldl max n)) H
theorem cr_maxT (hu : X.A.units + 67 < cLine) (hc : X.calm = true) : CallR X (.builtin "max") (rMaxT X.kk) := by
  intro pins s σ H xs us Q I r h
  obtain ⟨a, n, ns, rfl, hs, q⟩ := h
  rw [Vals.ref1 r]
  obtain ⟨its, rv, hl, hz⟩ := I.tuple hs
  have hd : ∀ l : List Int, DpAll X.kk H (l.map V.int) (l.map PyData.int) := fun l => by
    induction l with
    | nil => exact .nil
    | cons i l ih => exact .cons (.int i) ih
  obtain ⟨as, ra⟩ := Dp.readsAll I _ _ _ (hd (n :: ns)) rv
  have hdep : ∀ l : List Int, PyData.depthAll (l.map PyData.int) = 0 := fun l => by
    induction l with
    | nil => rfl
    | cons i l ih => rw [List.map_cons, PyData.depthAll, ih]; rfl
  refine PySem.W.max_tuple_data (vs := its.toArray) (x := .int n) (xs := ns.map PyData.int) (I.ok.hd hc) hl (by simpa using ra) ⟨fun d hd e he => ?_, fun d hd => ?_⟩ ?_ fun i v h' tk bs hv rd kp => ⟨.int (ns.foldl max n), H, I.kept kp, ?_, q⟩
  · have hd : d ∈ (n :: ns).map PyData.int := hd
    have he : e ∈ (n :: ns).map PyData.int := he
    obtain ⟨j, _, rfl⟩ := List.mem_map.mp hd
    obtain ⟨l, _, rfl⟩ := List.mem_map.mp he
    rfl
  · have hd : d ∈ (n :: ns).map PyData.int := hd
    obtain ⟨j, _, rfl⟩ := List.mem_map.mp hd
    exact fun z => by cases z
  · have : PyData.depthAll (.int n :: ns.map PyData.int) = 0 := hdep (n :: ns)
    rw [this]
    show X.A.units + 1 + 0 < _
    omega
  · rw [PySem.W.maxD_ints] at rd
    cases rd with
    | int i t => exact ⟨t, rfl⟩
def bMax1 : List D → Option D
  | [.tuple ds] => (intsOf ds).bind fun bs => match bs with
    | n :: ns => some (.int (ns.foldl max n))
    | [] => none
  | _ => none
theorem cas_max1 (hu2 : X.A.units + 67 < cLine) (hc : X.calm = true) : CaS X (.builtin "max") bMax1 := by
  refine ⟨_, cr_maxT hu2 hc, fun c W F H xs ds d Q st r e q => ?_⟩
  match ds, e with
  | [.tuple ds], e =>
    have ro := r.one; clear r; obtain ⟨v, rfl, r⟩ := ro
    obtain ⟨a1, v1, rfl, h1, l1, r1⟩ := (r.flat rfl).tupI
    have e : ((intsOf ds).bind fun bs => match bs with
      | n :: ns => some (PyData.int (ns.foldl max n))
      | [] => none) = some d := e
    cases e1 : intsOf ds with
    | none => rw [e1] at e; cases e
    | some bs =>
      obtain rfl := ints_eq e1
      rw [e1] at e
      obtain rfl := r1.intz
      cases bs with
      | nil => cases e
      | cons n ns =>
        have e : some (PyData.int (ns.foldl max n)) = some d := e
        cases e
        exact ⟨a1, n, ns, rfl, SqT_same st.sub h1, q F H _ st.refl rfl (fr_flat (.int _))⟩
/-- max of two: ints, or any data -/
def bMaxP : List D → Option D
  | [da, db] => if cmpOk da db && cmpOk db da && !isBox da && !isBox db then some (if PySem.W.dataLt da db then db else da) else none
  | _ => none
def bMax2 : List D → Option D
  | [.tuple xs, .tuple ys] => bMaxP [.tuple xs, .tuple ys]
  | [.str xs, .str ys] => bMaxP [.str xs, .str ys]
  | [.tuple xs] => bMax1 [.tuple xs]
  | ds => bMax ds
theorem cas_max2 (hu : X.A.units + 65 < cLine) (hu2 : X.A.units + 67 < cLine) (hc : X.calm = true) : CaS X (.builtin "max") bMax2 := by
  refine CaS.or2 (CaS.or2 (k := fun ds => match ds with | [.tuple xs] => bMax1 [.tuple xs] | ds => bMax ds) (cas_max hc) (cas_max1 hu2 hc) fun ds d e => by
    split at e
    · exact .inr e
    · exact .inl e) (h := bMaxP) ⟨_, cr_maxD hu2 hc, fun c W F H xs ds d Q st r e q => ?_⟩ fun ds d e => ?_
  · match ds, e with
    | [da, db], e =>
      have ro := r.two; clear r; obtain ⟨v, w, rfl, r, r'⟩ := ro
      obtain ⟨h, rfl⟩ := if_some e
      obtain ⟨h, n2⟩ := Bool.and_eq_true_iff.mp h
      obtain ⟨h, n1⟩ := Bool.and_eq_true_iff.mp h
      obtain ⟨k1, k2⟩ := Bool.and_eq_true_iff.mp h
      have n1 : isBox da = false := by simpa using n1
      have n2 : isBox db = false := by simpa using n2
      refine ⟨v, w, da, db, rfl, r.dp st.sub (cmpOk_of k1).1, r'.dp st.sub (cmpOk_of k1).2.1, k1, k2, ?_⟩
      by_cases hb : PySem.W.dataLt da db = true
      · rw [if_pos hb] at q ⊢
        exact q F H _ st.refl rfl (fr_flat (r'.flat n2) n2)
      · rw [if_neg hb] at q ⊢
        exact q F H _ st.refl rfl (fr_flat (r.flat n1) n1)
  · unfold bMax2 at e
    split at e
    · exact .inr e
    · exact .inr e
    · exact .inl e
    · rename_i h1 h2 h3
      refine .inl ?_
      split
      · rename_i xs
        exact absurd rfl (h3 xs)
      · exact e
end
end MP
namespace MP
open PySem

/-! ## reading the mirrors -/
section
variable {i j : Int} {x y : Str} {cp : Cup} {env : Env}
theorem shp_int : shp (.int i) = true := rfl
theorem shp_bool {b : Bool} : shp (.bool b) = true := rfl
theorem shp_none : shp .none = true := rfl
theorem shp_str (h : PyData.strOk x = true) : shp (.str x) = true := by
  unfold shp
  rw [PyData.canLay0, h]
  rfl
@[simp] theorem dAdd_ii : dAdd (.int i) (.int j) = some (.int (i + j)) := rfl
@[simp] theorem dSub_ii : dSub (.int i) (.int j) = some (.int (i - j)) := rfl
theorem dMul_ii (h : okMul i j = true) : dMul (.int i) (.int j) = some (.int (i * j)) := if_pos h
theorem dDiv_ii (h : 0 < j) (k : j < 1073741824) : dDiv (.int i) (.int j) = some (.int (i / j)) := if_pos (by simp [h, k])
theorem dMod_ii (h : 0 < j) : dMod (.int i) (.int j) = some (.int (i % j)) := if_pos (by simp [h])
theorem cmpOk_ii : cmpOk (.int i) (.int j) = true := rfl
@[simp] theorem dLt_ii : dLt (.int i) (.int j) = some (.bool (decide (i < j))) := by
  unfold dLt; rw [if_pos cmpOk_ii, PySem.W.dataLt_int]
@[simp] theorem dGt_ii : dGt (.int i) (.int j) = some (.bool (decide (j < i))) := by
  unfold dGt; rw [if_pos cmpOk_ii, PySem.W.dataLt_int]
@[simp] theorem dLe_ii : dLe (.int i) (.int j) = some (.bool (decide (i ≤ j))) := by
  unfold dLe; rw [if_pos cmpOk_ii, PySem.W.dataLt_int]
  by_cases h : i ≤ j
  · rw [decide_eq_true h, decide_eq_false (by omega)]; rfl
  · rw [decide_eq_false h, decide_eq_true (by omega)]; rfl
@[simp] theorem dGe_ii : dGe (.int i) (.int j) = some (.bool (decide (j ≤ i))) := by
  unfold dGe; rw [if_pos cmpOk_ii, PySem.W.dataLt_int]
  by_cases h : j ≤ i
  · rw [decide_eq_true h, decide_eq_false (by omega)]; rfl
  · rw [decide_eq_false h, decide_eq_true (by omega)]; rfl
@[simp] theorem eqv_ii : PyData.eqv (.int i) (.int j) = decide (i = j) := by
  rw [PyData.eqv]
  by_cases h : i = j
  · subst h; simp
  · rw [decide_eq_false h]; simpa using h
@[simp] theorem dEq_ii : dEq (.int i) (.int j) = some (.bool (decide (i = j))) := by
  unfold dEq; rw [if_pos (show (shp (PyData.int i) && shp (PyData.int j)) = true from rfl), eqv_ii]
@[simp] theorem dNe_ii : dNe (.int i) (.int j) = some (.bool (!decide (i = j))) := by
  unfold dNe; rw [if_pos (show (shp (PyData.int i) && shp (PyData.int j)) = true from rfl), eqv_ii]
end
@[simp] theorem isi_none_int : isiB "int" .none = some false := show L2.kitB "NoneType" "int" = some false by decide +kernel
@[simp] theorem isi_none_bool : isiB "bool" .none = some false := show L2.kitB "NoneType" "bool" = some false by decide +kernel
@[simp] theorem isi_none_str : isiB "str" .none = some false := show L2.kitB "NoneType" "str" = some false by decide +kernel
@[simp] theorem isi_none_tuple : isiB "tuple" .none = some false := show L2.kitB "NoneType" "tuple" = some false by decide +kernel
@[simp] theorem isi_none_list : isiB "list" .none = some false := show L2.kitB "NoneType" "list" = some false by decide +kernel
@[simp] theorem isi_bool_int {b : Bool} : isiB "int" (.bool b) = some true := show L2.kitB "bool" "int" = some true by decide +kernel
@[simp] theorem isi_bool_bool {b : Bool} : isiB "bool" (.bool b) = some true := show L2.kitB "bool" "bool" = some true by decide +kernel
@[simp] theorem isi_bool_str {b : Bool} : isiB "str" (.bool b) = some false := show L2.kitB "bool" "str" = some false by decide +kernel
@[simp] theorem isi_bool_tuple {b : Bool} : isiB "tuple" (.bool b) = some false := show L2.kitB "bool" "tuple" = some false by decide +kernel
@[simp] theorem isi_bool_list {b : Bool} : isiB "list" (.bool b) = some false := show L2.kitB "bool" "list" = some false by decide +kernel
@[simp] theorem isi_int_int {i : Int} : isiB "int" (.int i) = some true := show L2.kitB "int" "int" = some true by decide +kernel
@[simp] theorem isi_int_bool {i : Int} : isiB "bool" (.int i) = some false := show L2.kitB "int" "bool" = some false by decide +kernel
@[simp] theorem isi_int_str {i : Int} : isiB "str" (.int i) = some false := show L2.kitB "int" "str" = some false by decide +kernel
@[simp] theorem isi_int_tuple {i : Int} : isiB "tuple" (.int i) = some false := show L2.kitB "int" "tuple" = some false by decide +kernel
@[simp] theorem isi_int_list {i : Int} : isiB "list" (.int i) = some false := show L2.kitB "int" "list" = some false by decide +kernel
@[simp] theorem isi_str_int {x : Str} : isiB "int" (.str x) = some false := show L2.kitB "str" "int" = some false by decide +kernel
@[simp] theorem isi_str_bool {x : Str} : isiB "bool" (.str x) = some false := show L2.kitB "str" "bool" = some false by decide +kernel
@[simp] theorem isi_str_str {x : Str} : isiB "str" (.str x) = some true := show L2.kitB "str" "str" = some true by decide +kernel
@[simp] theorem isi_str_tuple {x : Str} : isiB "tuple" (.str x) = some false := show L2.kitB "str" "tuple" = some false by decide +kernel
@[simp] theorem isi_str_list {x : Str} : isiB "list" (.str x) = some false := show L2.kitB "str" "list" = some false by decide +kernel
@[simp] theorem isi_list_int {l : List D} : isiB "int" (.list l) = some false := show L2.kitB "list" "int" = some false by decide +kernel
@[simp] theorem isi_list_bool {l : List D} : isiB "bool" (.list l) = some false := show L2.kitB "list" "bool" = some false by decide +kernel
@[simp] theorem isi_list_str {l : List D} : isiB "str" (.list l) = some false := show L2.kitB "list" "str" = some false by decide +kernel
@[simp] theorem isi_list_tuple {l : List D} : isiB "tuple" (.list l) = some false := show L2.kitB "list" "tuple" = some false by decide +kernel
@[simp] theorem isi_list_list {l : List D} : isiB "list" (.list l) = some true := show L2.kitB "list" "list" = some true by decide +kernel
@[simp] theorem isi_tuple_int {l : List D} : isiB "int" (.tuple l) = some false := show L2.kitB "tuple" "int" = some false by decide +kernel
@[simp] theorem isi_tuple_bool {l : List D} : isiB "bool" (.tuple l) = some false := show L2.kitB "tuple" "bool" = some false by decide +kernel
@[simp] theorem isi_tuple_str {l : List D} : isiB "str" (.tuple l) = some false := show L2.kitB "tuple" "str" = some false by decide +kernel
@[simp] theorem isi_tuple_tuple {l : List D} : isiB "tuple" (.tuple l) = some true := show L2.kitB "tuple" "tuple" = some true by decide +kernel
@[simp] theorem isi_tuple_list {l : List D} : isiB "list" (.tuple l) = some false := show L2.kitB "tuple" "list" = some false by decide +kernel
/-! a comprehension whose parts don't roll -/
theorem lcGo_pure {g : Tg} {t e : Ev} {env : Env} {tt : D → Bool} {ee : D → D} : ∀ {ds : List D} {cp : Cup}, (∀ d ∈ ds, ∃ env', g d env = some env' ∧ ∀ cp, t env' cp = .ok (.bool (tt d)) cp ∧ (tt d = true → e env' cp = .ok (ee d) cp)) → lcGo g t e env ds cp = .ok ((ds.filter tt).map ee) cp
  | [], _, _ => rfl
  | d :: ds, cp, h => by
    obtain ⟨env', h1, h2⟩ := h d List.mem_cons_self
    obtain ⟨h3, h4⟩ := h2 cp
    have ih := lcGo_pure (ds := ds) (cp := cp) fun x hx => h x (List.mem_cons_of_mem _ hx)
    rw [lcGo, h1]
    dsimp only
    rw [h3]
    cases ht : tt d with
    | true =>
      rw [List.filter_cons_of_pos ht]
      show (nE (e env' cp)).bind _ = _
      rw [h4 ht]
      show (lcGo g t e env ds cp).bind _ = _
      rw [ih]
      rfl
    | false =>
      rw [List.filter_cons_of_neg (by rw [ht]; decide)]
      exact ih
theorem eLc_pure {own : List Nat} {g : Tg} {src : Evs} {t e : Ev} {env : Env} {cp cp1 : Cup} {ds : List D} {tt : D → Bool} {ee : D → D} (hs : src env cp = .ok ds cp1)
    (h : ∀ d ∈ ds, ∃ env', g d (wipeE env own) = some env' ∧ ∀ cp, t env' cp = .ok (.bool (tt d)) cp ∧ (tt d = true → e env' cp = .ok (ee d) cp)) : eLc own g src t e env cp = .ok (.list ((ds.filter tt).map ee)) cp1 := by
  unfold eLc
  rw [hs]
  show (lcGo g t e (wipeE env own) ds cp1).bind _ = _
  rw [lcGo_pure h]
  rfl
theorem eLc_map {own : List Nat} {g : Tg} {src : Evs} {e : Ev} {env : Env} {cp cp1 : Cup} {ds : List D} {ee : D → D} (hs : src env cp = .ok ds cp1)
    (h : ∀ d ∈ ds, ∃ env', g d (wipeE env own) = some env' ∧ ∀ cp, e env' cp = .ok (ee d) cp) : eLc own g src (eC (.bool true)) e env cp = .ok (.list (ds.map ee)) cp1 := by
  have := eLc_pure (tt := fun _ => true) (t := eC (.bool true)) (e := e) hs (fun d hd => by
    obtain ⟨env', h1, h2⟩ := h d hd
    exact ⟨env', h1, fun cp => ⟨rfl, fun _ => h2 cp⟩⟩)
  rw [this, List.filter_eq_self.mpr fun _ _ => rfl]
theorem bools_map {α : Type} (f : α → Bool) : ∀ l : List α, bools (l.map fun a => .bool (f a)) = some (l.map f)
  | [] => rfl
  | a :: l => by
    show ((bools (l.map fun a => PyData.bool (f a))).map (f a :: ·)) = _
    rw [bools_map f l]
    rfl
theorem bAll_map {α : Type} (f : α → Bool) (l : List α) : bAll [.list (l.map fun a => .bool (f a))] = some (.bool (l.all f)) := by
  show (bools (l.map fun a => PyData.bool (f a))).map (fun bs => PyData.bool (bs.all id)) = _
  rw [bools_map]
  simp [List.all_map]
theorem bAll_true {α : Type} (l : List α) : bAll [.list (l.map fun _ => .bool true)] = some (.bool true) := by
  rw [bAll_map fun _ => true]
  simp
end MP
namespace MP
open PySem

/-! ## the mirrors, step by step -/
def WpR {α : Type} (r : Res α) (P : α → Cup → Prop) : Prop := match r with
  | .ok a c => P a c
  | _ => False
structure Wp {α : Type} (r : Res α) (P : α → Cup → Prop) : Prop where
  run : WpR r P
section
variable {α β : Type} {env : Env} {cp : Cup} {f g a b c : Ev} {fs gs : Evs} {d e : D} {P : D → Cup → Prop} {PS : List D → Cup → Prop} {PO : Out → Cup → Prop} {s t : Sv}
theorem Wp.ok {r : Res α} {P : α → Cup → Prop} (h : Wp r P) : ∃ x k, r = .ok x k ∧ P x k := by
  cases r with
  | ok x k => exact ⟨x, k, rfl, h.run⟩
  | err => exact h.run.elim
  | bad => exact h.run.elim
theorem w_eq {r : Res α} {x : α} {k : Cup} {P : α → Cup → Prop} (e : r = .ok x k) (h : P x k) : Wp r P := by rw [e]; exact ⟨h⟩
theorem w_ex {r : Res α} {P Q : α → Cup → Prop} (e : Wp r Q) (h : ∀ x k, Q x k → P x k) : Wp r P := by
  cases r with
  | ok x k => exact ⟨h _ _ e.run⟩
  | err => exact e.run.elim
  | bad => exact e.run.elim
theorem w_bind {r : Res α} {g : α → Cup → Res β} {P : β → Cup → Prop} (h : Wp r fun x k => Wp (g x k) P) : Wp (r.bind g) P := by
  cases r with
  | ok x k => exact h.run
  | err => exact h.run.elim
  | bad => exact h.run.elim
theorem w_nm {i : Nat} (h : env[i]? = some (some d)) (k : P d cp) : Wp (eNm i env cp) P := by
  unfold eNm
  rw [h]
  exact ⟨k⟩
theorem w_c (k : P d cp) : Wp (eC d env cp) P := ⟨k⟩
theorem w_nil (k : PS [] cp) : Wp (eNil env cp) PS := ⟨k⟩
theorem w_cons (h : Wp (f env cp) fun d c1 => Wp (fs env c1) fun ds c2 => PS (d :: ds) c2) : Wp (eCons f fs env cp) PS := w_bind (w_ex h fun x k q => w_bind (w_ex q fun _ _ z => ⟨z⟩))
theorem w_tup (h : Wp (fs env cp) fun ds c => P (.tuple ds) c) : Wp (eTup fs env cp) P := w_bind (w_ex h fun _ _ z => ⟨z⟩)
theorem w_lst (h : Wp (fs env cp) fun ds c => P (.list ds) c) : Wp (eLst fs env cp) P := w_bind (w_ex h fun _ _ z => ⟨z⟩)
theorem w_bin {op : D → D → Option D} (h : Wp (a env cp) fun x c1 => Wp (b env c1) fun y c2 => ∃ d, op x y = some d ∧ P d c2) : Wp (eBin op a b env cp) P :=
  w_bind (w_ex h fun x k q => w_bind (w_ex q fun y k2 ⟨d, e, z⟩ => by
    show Wp (match op x y with | some d => Res.ok d k2 | none => .bad) P
    rw [e]
    exact ⟨z⟩))
theorem w_b (h : Wp (f env cp) fun d c => ∃ b, d = .bool b ∧ P (.bool b) c) : Wp (eB f env cp) P := w_bind (w_ex h fun x k ⟨b, e, q⟩ => by subst e; exact ⟨q⟩)
theorem w_not (h : Wp (f env cp) fun d c => ∃ b, d = .bool b ∧ P (.bool !b) c) : Wp (eNot f env cp) P := w_bind (w_ex h fun x k ⟨b, e, q⟩ => by subst e; exact ⟨q⟩)
theorem w_neg (h : Wp (f env cp) fun d c => ∃ i, d = .int i ∧ P (.int (-i)) c) : Wp (eNeg f env cp) P := w_bind (w_ex h fun x k ⟨b, e, q⟩ => by subst e; exact ⟨q⟩)
theorem w_and (h : Wp (f env cp) fun d c => ∃ b, d = .bool b ∧ (b = true → Wp (g env c) P) ∧ (b = false → P (.bool false) c)) : Wp (eAnd f g env cp) P := w_bind (w_ex h fun x k ⟨b, e, q1, q2⟩ => by
  subst e
  cases b with
  | true => exact q1 rfl
  | false => exact ⟨q2 rfl⟩)
theorem w_or (h : Wp (f env cp) fun d c => ∃ b, d = .bool b ∧ (b = true → P (.bool true) c) ∧ (b = false → Wp (g env c) P)) : Wp (eOr f g env cp) P := w_bind (w_ex h fun x k ⟨b, e, q1, q2⟩ => by
  subst e
  cases b with
  | true => exact ⟨q1 rfl⟩
  | false => exact q2 rfl)
theorem w_if (h : Wp (c env cp) fun d k => ∃ b, d = .bool b ∧ (b = true → Wp (f env k) P) ∧ (b = false → Wp (g env k) P)) : Wp (eIf c f g env cp) P := w_bind (w_ex h fun x k ⟨b, e, q1, q2⟩ => by
  subst e
  cases b with
  | true => exact q1 rfl
  | false => exact q2 rfl)
theorem w_chn {op op' : D → D → Option D} (h : Wp (a env cp) fun x c1 => Wp (b env c1) fun y c2 => ∃ k, op x y = some (.bool k) ∧ (k = true → Wp (c env c2) fun w c3 => ∃ d, op' y w = some d ∧ P d c3) ∧ (k = false → P (.bool false) c2)) : Wp (eChn op op' a b c env cp) P :=
  w_bind (w_ex h fun x k q => w_bind (w_ex q fun y k2 ⟨b, e, q1, q2⟩ => by
    show Wp (match op x y with
      | some (.bool true) => (c env k2).bind fun w cp3 => match op' y w with
        | some d => Res.ok d cp3
        | none => .bad
      | some (.bool false) => .ok (.bool false) k2
      | _ => .bad) P
    rw [e]
    cases b with
    | true => exact w_bind (w_ex (q1 rfl) fun w k3 ⟨d, e, z⟩ => by
        show Wp (match op' y w with | some d => Res.ok d k3 | none => .bad) P
        rw [e]
        exact ⟨z⟩)
    | false => exact ⟨q2 rfl⟩))
theorem w_ca {op : List D → Option D} (h : Wp (fs env cp) fun ds c => ∃ d, op ds = some d ∧ P d c) : Wp (eCa op fs env cp) P := w_bind (w_ex h fun ds k ⟨d, e, q⟩ => by
  show Wp (match op ds with | some d => Res.ok d k | none => .bad) P
  rw [e]
  exact ⟨q⟩)
theorem w_isi {T : String} (h : Wp (f env cp) fun d c => ∃ b, isiB T d = some b ∧ P (.bool b) c) : Wp (eIsi T f env cp) P := w_bind (w_ex h fun d k ⟨b, e, q⟩ => by
  show Wp (match isiB T d with | some b => Res.ok (.bool b) k | none => .bad) P
  rw [e]
  exact ⟨q⟩)
theorem w_call {M : Mean} (h : Wp (fs env cp) fun ds c => Wp (M ds c) P) : Wp (eCall M fs env cp) P := w_bind h
theorem w_cup {k : Bool} (h : P (.int (if k then cp.2 else cp.1)) cp) : Wp (eCup k env cp) P := ⟨h⟩
theorem w_rg1 (h : Wp (f env cp) fun d c => ∃ j, d = .int j ∧ okR j = true ∧ okLen j.toNat = true ∧ PS (rangeL 0 j.toNat) c) : Wp (eRg1 f env cp) PS := w_bind (w_ex h fun d k ⟨j, e, h1, h2, q⟩ => by
  subst e
  show Wp (if okR j && okLen j.toNat then Res.ok (rangeL 0 j.toNat) k else .bad) PS
  rw [h1, h2]
  exact ⟨q⟩)
theorem w_rg2 (h : Wp (f env cp) fun d c => Wp (g env c) fun e c2 => ∃ i j, d = .int i ∧ e = .int j ∧ okR i = true ∧ okR j = true ∧ okLen (j - i).toNat = true ∧ PS (rangeL i (j - i).toNat) c2) : Wp (eRg2 f g env cp) PS := w_bind (w_ex h fun d k q => w_bind (w_ex q fun e k2 ⟨i, j, e1, e2, h1, h2, h3, q9⟩ => by
  subst e1
  subst e2
  show Wp (if okR i && okR j && okLen (j - i).toNat then Res.ok (rangeL i (j - i).toNat) k2 else .bad) PS
  rw [h1, h2, h3]
  exact ⟨q9⟩))
theorem w_it (h : Wp (f env cp) fun d c => ∃ ds, sItems d = some ds ∧ PS ds c) : Wp (eIt f env cp) PS := w_bind (w_ex h fun d k ⟨ds, e, q⟩ => by
  show Wp (match sItems d with | some ds => Res.ok ds k | none => .bad) PS
  rw [e]
  exact ⟨q⟩)
theorem w_sl {lo hi : Eo} {x : D} {l h : Option Int} {c1 c2 c3 : Cup} (e1 : a env cp = .ok x c1) (e2 : lo env c1 = .ok l c2) (e3 : hi env c2 = .ok h c3) (q : ∃ d, dSl x l h = some d ∧ P d c3) : Wp (eSl a lo hi env cp) P := by
  obtain ⟨d, e, q⟩ := q
  unfold eSl
  rw [e1]
  show Wp ((lo env c1).bind _) P
  rw [e2]
  show Wp ((hi env c2).bind _) P
  rw [e3]
  show Wp (match dSl x l h with | some d => Res.ok d c3 | none => .bad) P
  rw [e]
  exact ⟨q⟩
/-! statements -/
theorem w_seq (h : Wp (s env cp) fun o c => match o with | .nx env' => Wp (t env' c) PO | o => PO o c) : Wp (sSeq s t env cp) PO := w_bind (w_ex h fun o k q => by
  cases o with
  | nx env' => exact q
  | rt d => exact ⟨q⟩
  | bk e => exact ⟨q⟩
  | ct e => exact ⟨q⟩)
theorem w_ret (h : Wp (f env cp) fun d c => PO (.rt d) c) : Wp (sRet f env cp) PO := w_bind (w_ex h fun _ _ z => ⟨z⟩)
theorem w_retN (h : PO (.rt .none) cp) : Wp (sRetN env cp) PO := ⟨h⟩
theorem w_snil (h : PO (.nx env) cp) : Wp (sNil env cp) PO := ⟨h⟩
theorem w_drop (h : Wp (f env cp) fun _ c => PO (.nx env) c) : Wp (sDrop f env cp) PO := w_bind (w_ex h fun _ _ z => ⟨z⟩)
theorem w_set {i : Nat} (h : Wp (f env cp) fun d c => PO (.nx (env.set i (some d))) c) : Wp (sSet i f env cp) PO := w_bind (w_ex h fun _ _ z => ⟨z⟩)
theorem w_par {is : List Nat} (h : Wp (fs env cp) fun ds c => PO (.nx (setL env is ds)) c) : Wp (sPar is fs env cp) PO := w_bind (w_ex h fun _ _ z => ⟨z⟩)
theorem w_asg {g : Tg} (h : Wp (f env cp) fun d c => ∃ env', g d env = some env' ∧ PO (.nx env') c) : Wp (sAsg g f env cp) PO := w_bind (w_ex h fun d k ⟨env', e, q⟩ => by
  show Wp (match g d env with | some env' => Res.ok (.nx env') k | none => .bad) PO
  rw [e]
  exact ⟨q⟩)
theorem w_sif (h : Wp (c env cp) fun d k => ∃ b, d = .bool b ∧ (b = true → Wp (s env k) PO) ∧ (b = false → Wp (t env k) PO)) : Wp (sIf c s t env cp) PO := w_bind (w_ex h fun x k ⟨b, e, q1, q2⟩ => by
  subst e
  cases b with
  | true => exact q1 rfl
  | false => exact q2 rfl)
theorem w_app {i : Nat} {ds : List D} (he : env[i]? = some (some (.list ds))) (h : Wp (f env cp) fun d c => ds.length < 16777216 ∧ PO (.nx (env.set i (some (.list (ds ++ [d]))))) c) : Wp (sApp i f env cp) PO := by
  unfold sApp
  rw [he]
  exact w_bind (w_ex h fun d k ⟨q1, q2⟩ => by
    show Wp (if decide (ds.length < 16777216) then Res.ok (Out.nx (env.set i (some (.list (ds ++ [d]))))) k else .bad) PO
    rw [decide_eq_true q1]
    exact ⟨q2⟩)
theorem w_scup {k : Bool} (h : Wp (f env cp) fun d c => ∃ n, d = .int n ∧ PO (.nx env) (if k then (c.1, n) else (n, c.2))) : Wp (sCup k f env cp) PO := w_bind (w_ex h fun d c ⟨n, e, q⟩ => by subst e; exact ⟨q⟩)
theorem w_mean {uc : Bool} {n : Nat} {ds : List D} (h : Wp (s (env0 uc n ds) cp) fun o c => match o with | .rt d => P d c | .nx _ => P .none c | _ => False) : Wp (mean uc n s ds cp) P := w_bind (w_ex h fun o c q => by
  cases o with
  | nx env' => exact ⟨q⟩
  | rt d => exact ⟨q⟩
  | bk e => exact q.elim
  | ct e => exact q.elim)
/-- a loop by an invariant over what is done -/
theorem forGo_inv {g : Tg} {body : Sv} (I : List D → List D → Env → Cup → Prop) {ds0 : List D} (h : ∀ (done : List D) (d : D) (r : List D) (env : Env) (cp : Cup), ds0 = done ++ d :: r → I done (d :: r) env cp → ∃ env1, g d env = some env1 ∧ Wp (body env1 cp) fun o c => match o with
    | .nx env2 => I (done ++ [d]) r env2 c
    | .ct env2 => I (done ++ [d]) r env2 c
    | .bk env2 => PO (.nx env2) c
    | .rt d => PO (.rt d) c) (hend : ∀ env cp, I ds0 [] env cp → PO (.nx env) cp) : ∀ (ds done : List D) (env : Env) (cp : Cup), ds0 = done ++ ds → I done ds env cp → Wp (forGo g body ds env cp) PO
  | [], done, env, cp, e, i => by
    rw [List.append_nil] at e
    subst e
    exact ⟨hend _ _ i⟩
  | d :: ds, done, env, cp, e, i => by
    obtain ⟨env1, h1, h2⟩ := h done d ds env cp e i
    rw [forGo, h1]
    refine w_bind (w_ex h2 fun o c q => ?_)
    cases o with
    | nx env2 => exact forGo_inv I h hend ds (done ++ [d]) env2 c (by rw [e, List.append_assoc]; rfl) q
    | ct env2 => exact forGo_inv I h hend ds (done ++ [d]) env2 c (by rw [e, List.append_assoc]; rfl) q
    | bk env2 => exact ⟨q⟩
    | rt d => exact ⟨q⟩
theorem w_for {g : Tg} {src : Evs} {body : Sv} (h : Wp (src env cp) fun ds c => Wp (forGo g body ds env c) PO) : Wp (sFor g src body env cp) PO := w_bind h
/-- a comprehension by an invariant -/
theorem lcGo_inv {g : Tg} {t e : Ev} {env : Env} (I : List D → List D → Prop) {ds0 : List D} (h : ∀ (done : List D) (d : D) (r : List D) (out : List D) (cp : Cup), ds0 = done ++ d :: r → I done out → ∃ env1, g d env = some env1 ∧ Wp (t env1 cp) fun b c => ∃ k, b = .bool k ∧ (k = true → Wp (e env1 c) fun y _ => I (done ++ [d]) (out ++ [y])) ∧ (k = false → I (done ++ [d]) out)) :
    ∀ (ds done out : List D) (cp : Cup), ds0 = done ++ ds → I done out → Wp (lcGo g t e env ds cp) fun ys _ => I ds0 (out ++ ys)
  | [], done, out, cp, e1, i => by
    rw [List.append_nil] at e1
    subst e1
    refine ⟨?_⟩
    show I _ (out ++ [])
    rw [List.append_nil]
    exact i
  | d :: ds, done, out, cp, e1, i => by
    obtain ⟨env1, h1, h2⟩ := h done d ds out cp e1 i
    rw [lcGo, h1]
    dsimp only
    obtain ⟨b, c, eb, k, rfl, q1, q2⟩ := h2.ok
    rw [eb]
    cases k with
    | true =>
      obtain ⟨y, c2, ey, q3⟩ := (q1 rfl).ok
      show Wp ((nE (e env1 c)).bind _) _
      rw [ey]
      show Wp ((lcGo g t e env ds c2).bind _) _
      refine w_bind (w_ex (lcGo_inv I h ds (done ++ [d]) (out ++ [y]) c2 (by rw [e1, List.append_assoc]; rfl) q3) fun ys _ q => ?_)
      refine ⟨?_⟩
      show I ds0 (out ++ (y :: ys))
      rw [List.append_assoc] at q
      exact q
    | false => exact lcGo_inv I h ds (done ++ [d]) out c (by rw [e1, List.append_assoc]; rfl) (q2 rfl)
theorem w_lc {own : List Nat} {g : Tg} {src : Evs} {t e : Ev} (h : Wp (src env cp) fun ds c => Wp (lcGo g t e (wipeE env own) ds c) fun ys k => P (.list ys) k) : Wp (eLc own g src t e env cp) P := w_bind (w_ex h fun _ _ q => w_bind (w_ex q fun _ _ z => ⟨z⟩))
theorem w_sl2 {lo hi : Eo} (h : Wp (a env cp) fun x c1 => Wp (lo env c1) fun l c2 => Wp (hi env c2) fun h c3 => ∃ d, dSl x l h = some d ∧ P d c3) : Wp (eSl a lo hi env cp) P := w_bind (w_ex h fun x c1 q => w_bind (w_ex q fun l c2 q => w_bind (w_ex q fun h c3 ⟨d, e, q⟩ => by
  show Wp (match dSl x l h with | some d => Res.ok d c3 | none => .bad) P
  rw [e]
  exact ⟨q⟩)))
theorem w_eoN {PE : Option Int → Cup → Prop} (h : PE none cp) : Wp (eoN env cp) PE := ⟨h⟩
theorem w_eoS {PE : Option Int → Cup → Prop} (h : Wp (f env cp) fun d c => ∃ i, d = .int i ∧ PE (some i) c) : Wp (eoS f env cp) PE := w_bind (w_ex h fun d c ⟨i, e, q⟩ => by subst e; exact ⟨q⟩)
def zipD : D → D → Option (List D)
  | .list xs, .list ys => some (zipL xs ys)
  | .tuple xs, .tuple ys => some (zipL xs ys)
  | _, _ => none
theorem w_zip (h : Wp (a env cp) fun x c1 => Wp (b env c1) fun y c2 => ∃ l, zipD x y = some l ∧ PS l c2) : Wp (eZip a b env cp) PS := w_bind (w_ex h fun x c1 q => w_bind (w_ex q fun y c2 ⟨l, e, q⟩ => by
  cases x <;> cases y <;> cases e <;> exact ⟨q⟩))
def enumD : D → Option (List D)
  | .list xs => some (enumL xs)
  | .tuple xs => some (enumL xs)
  | _ => none
theorem w_enum (h : Wp (a env cp) fun x c1 => ∃ l, enumD x = some l ∧ PS l c1) : Wp (eEnum a env cp) PS := w_bind (w_ex h fun x c1 ⟨l, e, q⟩ => by
  cases x <;> cases e <;> exact ⟨q⟩)
theorem w_me {ty : D → Bool} {op : D → List D → Option D} (h : Wp (f env cp) fun d c1 => ty d = true ∧ Wp (fs env c1) fun ds c2 => ∃ e, op d ds = some e ∧ P e c2) : Wp (eMe ty op f fs env cp) P := w_bind (w_ex h fun d c1 ⟨h1, q⟩ => by
  rw [if_pos h1]
  exact w_bind (w_ex q fun ds c2 ⟨e, e1, q⟩ => by
    show Wp (match op d ds with | some e => Res.ok e c2 | none => .bad) P
    rw [e1]
    exact ⟨q⟩))
theorem w_rev (h : Wp (f env cp) fun d c => ∃ ds, d = .list ds ∧ P (.list ds.reverse) c) : Wp (eRev f env cp) P := w_bind (w_ex h fun d c ⟨ds, e, q⟩ => by subst e; exact ⟨q⟩)
theorem w_augI {i : Nat} {n : Int} {g : Int → Int → Int} (he : env[i]? = some (some (.int n))) (h : Wp (f env cp) fun d c => ∃ m, d = .int m ∧ PO (.nx (env.set i (some (.int (g n m))))) c) : Wp (sAugI i g f env cp) PO := by
  unfold sAugI
  rw [he]
  exact w_bind (w_ex h fun d c ⟨m, e, q⟩ => by subst e; exact ⟨q⟩)
theorem Wp.ok_nx {g : Tg} {body : Sv} (h : PO (.nx env) cp) : Wp (forGo g body [] env cp) PO := ⟨h⟩
end
end MP
namespace MP.SI
open PySem MP
/-! ## mirrors of defs that many laws reach -/
def m_law_same : Nat → Mean
  | 0 => fun _ _ => .bad
  | n + 1 => mean false 3 (sSeq (sIf (eB (eIsi "tuple" (eNm 1)))
    (sSeq (sIf (eOr (eNot (eB (eIsi "tuple" (eNm 0)))) (eB (eBin dNe (eCa bLen (eCons (eNm 0) eNil)) (eCa bLen (eCons (eNm 1) eNil)))))
      (sRet (eC (.bool false)))
      sNil)
    (sRet (eCa bAll (eCons (eLc [2] (gNm 2) (eRg1 (eCa bLen (eCons (eNm 1) eNil))) (eC (.bool true)) (eCall (m_law_same n) (eCons (eBin dIx (eNm 0) (eNm 2)) (eCons (eBin dIx (eNm 1) (eNm 2)) eNil)))) eNil))))
    sNil)
  (sSeq (sIf (eB (eBin dIs (eNm 1) (eC .none)))
    (sRet (eBin dIs (eNm 0) (eC .none)))
    sNil)
  (sSeq (sIf (eB (eIsi "bool" (eNm 1)))
    (sRet (eIf (eB (eNm 1)) (eBin dIs (eNm 0) (eC (.bool true))) (eBin dIs (eNm 0) (eC (.bool false)))))
    sNil)
  (sSeq (sIf (eB (eIsi "int" (eNm 1)))
    (sRet (eAnd (eIsi "int" (eNm 0)) (eAnd (eNot (eIsi "bool" (eNm 0))) (eBin dEq (eCa bInt (eCons (eNm 0) eNil)) (eNm 1)))))
    sNil)
  (sRet (eAnd (eIsi "str" (eNm 0)) (eBin dEq (eCa bStr (eCons (eNm 0) eNil)) (eNm 1))))))))
def m_is_whole : Mean := mean false 1
  (sRet (eAnd (eIsi "int" (eNm 0)) (eNot (eIsi "bool" (eNm 0)))))
def m_fits_whole : Mean := mean false 3
  (sRet (eAnd (eCall m_is_whole (eCons (eNm 0) eNil)) (eChn dLe dLe (eNm 1) (eNm 0) (eNm 2))))
def m_is_tuple_of : Mean := mean false 3
  (sRet (eAnd (eIsi "tuple" (eNm 0)) (eChn dLe dLe (eNm 1) (eCa bLen (eCons (eNm 0) eNil)) (eNm 2))))
def m_is_rising : Mean := mean false 3
  (sRet (eCa bAll (eCons (eLc [1, 2] (gTp (gsCons (gNm 1) (gsCons (gNm 2) gsNil))) (eZip (eNm 0) (eSl (eNm 0) (eoS (eC (.int 1))) eoN)) (eC (.bool true)) (eBin dLt (eNm 1) (eNm 2))) eNil)))
def m_fits_name : Mean := mean false 2
  (sSeq (sIf (eOr (eNot (eB (eIsi "str" (eNm 0)))) (eNot (eB (eChn dLe dLe (eC (.int 1)) (eCa bLen (eCons (eNm 0) eNil)) (eC (.int 12))))))
    (sRet (eC (.bool false)))
    sNil)
  (sRet (eAnd (eBin dIn (eBin dIx (eNm 0) (eC (.int 0))) (eC (.str "abcdefghijklmnopqrstuvwxyz"))) (eCa bAll (eCons (eLc [1] (gNm 1) (eIt (eNm 0)) (eC (.bool true)) (eBin dIn (eNm 1) (eC (.str "abcdefghijklmnopqrstuvwxyz0123456789")))) eNil)))))
def m_fits_country : Mean := mean false 2
  (sRet (eAnd (eCall m_is_tuple_of (eCons (eNm 0) (eCons (eC (.int 1)) (eCons (eC (.int 200)) eNil)))) (eCa bAll (eCons (eLc [1] (gNm 1) (eIt (eNm 0)) (eC (.bool true)) (eCall m_fits_whole (eCons (eNm 1) (eCons (eC (.int 0)) (eCons (eC (.int 10000)) eNil))))) eNil))))
def m_need_country : Mean := mean false 1
  (sIf (eNot (eB (eCall m_fits_country (eCons (eNm 0) eNil))))
    sNever
    sNil)
def m_fits_tower : Mean := mean false 2
  (sSeq (sIf (eOr (eNot (eB (eCall m_is_tuple_of (eCons (eNm 1) (eCons (eC (.int 3)) (eCons (eC (.int 3)) eNil)))))) (eNot (eB (eCall m_fits_name (eCons (eBin dIx (eNm 1) (eC (.int 0))) eNil)))))
    (sRet (eC (.bool false)))
    sNil)
  (sRet (eAnd (eCall m_fits_whole (eCons (eBin dIx (eNm 1) (eC (.int 1))) (eCons (eC (.int 0)) (eCons (eBin dSub (eCa bLen (eCons (eNm 0) eNil)) (eC (.int 1))) eNil)))) (eCall m_fits_whole (eCons (eBin dIx (eNm 1) (eC (.int 2))) (eCons (eC (.int 0)) (eCons (eC (.int 10000)) eNil)))))))
def m_fits_towers : Mean := mean false 5
  (sSeq (sIf (eOr (eNot (eB (eCall m_is_tuple_of (eCons (eNm 1) (eCons (eC (.int 0)) (eCons (eC (.int 24)) eNil)))))) (eNot (eB (eCa bAll (eCons (eLc [3] (gNm 3) (eIt (eNm 1)) (eC (.bool true)) (eCall m_fits_tower (eCons (eNm 0) (eCons (eNm 3) eNil)))) eNil)))))
    (sRet (eC (.bool false)))
    sNil)
  (sSeq (sSet 2 (eLc [4] (gNm 4) (eIt (eNm 1)) (eC (.bool true)) (eBin dIx (eNm 4) (eC (.int 1)))))
  (sRet (eAnd (eCall m_is_rising (eCons (eLc [4] (gNm 4) (eIt (eNm 1)) (eC (.bool true)) (eBin dIx (eNm 4) (eC (.int 0)))) eNil)) (eCa bAll (eCons (eLc [3] (gNm 3) (eIt (eNm 2)) (eC (.bool true)) (eBin dEq (eMe isLst mCount (eNm 2) (eCons (eNm 3) eNil)) (eC (.int 1)))) eNil))))))
def m_need_towers : Mean := mean false 2
  (sSeq (sDrop (eCall m_need_country (eCons (eNm 0) eNil)))
  (sIf (eNot (eB (eCall m_fits_towers (eCons (eNm 0) (eCons (eNm 1) eNil)))))
    sNever
    sNil))
def m_need_place : Mean := mean false 2
  (sIf (eNot (eB (eCall m_fits_whole (eCons (eNm 1) (eCons (eC (.int 0)) (eCons (eBin dSub (eCa bLen (eCons (eNm 0) eNil)) (eC (.int 1))) eNil))))))
    sNever
    sNil)
def m_need_mast : Mean := mean false 1
  (sIf (eNot (eB (eCall m_fits_whole (eCons (eNm 0) (eCons (eC (.int 0)) (eCons (eC (.int 10000)) eNil))))))
    sNever
    sNil)
def m_top_in : Mean := mean false 2
  (sRet (eTup (eCons (eBin dIx (eNm 1) (eC (.int 1))) (eCons (eBin dAdd (eBin dIx (eNm 0) (eBin dIx (eNm 1) (eC (.int 1)))) (eBin dIx (eNm 1) (eC (.int 2)))) eNil))))
def m_tower_in : Mean := mean false 4
  (sSeq (sSet 2 (eLc [3] (gNm 3) (eIt (eNm 0)) (eAnd (eB (eIsi "str" (eNm 1))) (eB (eBin dEq (eBin dIx (eNm 3) (eC (.int 0))) (eNm 1)))) (eNm 3)))
  (sSeq (sIf (eB (eBin dEq (eNm 2) (eLst eNil)))
    sNever
    sNil)
  (sRet (eBin dIx (eNm 2) (eC (.int 0))))))
def m_is_open : Mean := mean false 8
  (sSeq (sAsg (gTp (gsCons (gTp (gsCons (gNm 3) (gsCons (gNm 4) gsNil))) (gsCons (gTp (gsCons (gNm 5) (gsCons (gNm 6) gsNil))) gsNil))) (eTup (eCons (eCa bMin2 (eCons (eNm 1) (eCons (eNm 2) eNil))) (eCons (eCa bMax2 (eCons (eNm 1) (eCons (eNm 2) eNil))) eNil))))
  (sSeq (sFor (gNm 7) (eRg2 (eBin dAdd (eNm 3) (eC (.int 1))) (eNm 5))
    (sIf (eB (eBin dGe (eBin dMul (eBin dIx (eNm 0) (eNm 7)) (eBin dSub (eNm 5) (eNm 3))) (eBin dAdd (eBin dMul (eNm 4) (eBin dSub (eNm 5) (eNm 7))) (eBin dMul (eNm 6) (eBin dSub (eNm 7) (eNm 3))))))
      (sRet (eC (.bool false)))
      sNil))
  (sRet (eC (.bool true)))))
def m_barring_in : Mean := mean false 9
  (sSeq (sAsg (gTp (gsCons (gTp (gsCons (gNm 3) (gsCons (gNm 4) gsNil))) (gsCons (gTp (gsCons (gNm 5) (gsCons (gNm 6) gsNil))) gsNil))) (eTup (eCons (eCa bMin2 (eCons (eNm 1) (eCons (eNm 2) eNil))) (eCons (eCa bMax2 (eCons (eNm 1) (eCons (eNm 2) eNil))) eNil))))
  (sSeq (sSet 7 (eLst eNil))
  (sSeq (sFor (gNm 8) (eRg2 (eBin dAdd (eNm 3) (eC (.int 1))) (eNm 5))
    (sIf (eB (eBin dGe (eBin dMul (eBin dIx (eNm 0) (eNm 8)) (eBin dSub (eNm 5) (eNm 3))) (eBin dAdd (eBin dMul (eNm 4) (eBin dSub (eNm 5) (eNm 8))) (eBin dMul (eNm 6) (eBin dSub (eNm 8) (eNm 3))))))
      (sApp 7 (eNm 8))
      sNil))
  (sRet (eNm 7)))))
def m_least_top : Mean := mean false 9
  (sSeq (sAsg (gTp (gsCons (gNm 3) (gsCons (gNm 4) gsNil))) (eNm 1))
  (sSeq (sSet 5 (eBin dIx (eNm 0) (eNm 2)))
  (sSeq (sFor (gNm 6) (eRg2 (eBin dAdd (eCa bMin2 (eCons (eNm 3) (eCons (eNm 2) eNil))) (eC (.int 1))) (eCa bMax2 (eCons (eNm 3) (eCons (eNm 2) eNil))))
    (sSeq (sPar [7, 8] (eCons (eCa bAbs (eCons (eBin dSub (eNm 2) (eNm 3)) eNil)) (eCons (eCa bAbs (eCons (eBin dSub (eNm 6) (eNm 3)) eNil)) eNil)))
    (sSet 5 (eCa bMax2 (eCons (eNm 5) (eCons (eBin dAdd (eBin dAdd (eNm 4) (eBin dDiv (eBin dMul (eBin dSub (eBin dIx (eNm 0) (eNm 6)) (eNm 4)) (eNm 7)) (eNm 8))) (eC (.int 1))) eNil))))))
  (sRet (eNm 5)))))
def m_sight_pairs : Mean := mean false 6
  (sSeq (sSet 2 (eLst eNil))
  (sSeq (sFor (gTp (gsCons (gNm 3) (gsCons (gNm 4) gsNil))) (eEnum (eNm 1))
    (sFor (gNm 5) (eIt (eSl (eNm 1) (eoS (eBin dAdd (eNm 3) (eC (.int 1)))) eoN))
      (sIf (eB (eCall m_is_open (eCons (eNm 0) (eCons (eCall m_top_in (eCons (eNm 0) (eCons (eNm 4) eNil))) (eCons (eCall m_top_in (eCons (eNm 0) (eCons (eNm 5) eNil))) eNil)))))
        (sApp 2 (eTup (eCons (eBin dIx (eNm 4) (eC (.int 0))) (eCons (eBin dIx (eNm 5) (eC (.int 0))) eNil))))
        sNil)))
  (sRet (eNm 2))))
def m_sights : Mean := mean false 2
  (sSeq (sDrop (eCall m_need_towers (eCons (eNm 0) (eCons (eNm 1) eNil))))
  (sRet (eCa bTuple (eCons (eCall m_sight_pairs (eCons (eNm 0) (eCons (eNm 1) eNil))) eNil))))
def m_barring_places : Mean := mean false 6
  (sSeq (sDrop (eCall m_need_towers (eCons (eNm 0) (eCons (eNm 1) eNil))))
  (sSeq (sPar [4, 5] (eCons (eCall m_tower_in (eCons (eNm 1) (eCons (eNm 2) eNil))) (eCons (eCall m_tower_in (eCons (eNm 1) (eCons (eNm 3) eNil))) eNil)))
  (sRet (eCa bTuple (eCons (eCall m_barring_in (eCons (eNm 0) (eCons (eCall m_top_in (eCons (eNm 0) (eCons (eNm 4) eNil))) (eCons (eCall m_top_in (eCons (eNm 0) (eCons (eNm 5) eNil))) eNil)))) eNil)))))
def m_least_mast : Mean := mean false 5
  (sSeq (sDrop (eCall m_need_towers (eCons (eNm 0) (eCons (eNm 1) eNil))))
  (sSeq (sSet 4 (eCall m_tower_in (eCons (eNm 1) (eCons (eNm 2) eNil))))
  (sSeq (sDrop (eCall m_need_place (eCons (eNm 0) (eCons (eNm 3) eNil))))
  (sRet (eBin dSub (eCall m_least_top (eCons (eNm 0) (eCons (eCall m_top_in (eCons (eNm 0) (eCons (eNm 4) eNil))) (eCons (eNm 3) eNil)))) (eBin dIx (eNm 0) (eNm 3)))))))
def m_seen_places : Mean := mean false 5
  (sSeq (sDrop (eCall m_need_country (eCons (eNm 0) eNil)))
  (sSeq (sDrop (eCall m_need_place (eCons (eNm 0) (eCons (eNm 1) eNil))))
  (sSeq (sDrop (eCall m_need_mast (eCons (eNm 2) eNil)))
  (sSeq (sSet 3 (eTup (eCons (eNm 1) (eCons (eBin dAdd (eBin dIx (eNm 0) (eNm 1)) (eNm 2)) eNil))))
  (sRet (eCa bTuple (eCons (eLc [4] (gNm 4) (eRg1 (eCa bLen (eCons (eNm 0) eNil))) (eAnd (eB (eBin dNe (eNm 4) (eNm 1))) (eB (eCall m_is_open (eCons (eNm 0) (eCons (eNm 3) (eCons (eTup (eCons (eNm 4) (eCons (eBin dIx (eNm 0) (eNm 4)) eNil))) eNil)))))) (eNm 4)) eNil)))))))
end MP.SI
namespace MP.SI
open PySem MP
local macro_rules | `(tactic| walk_at "w") => `(tactic| first
  | with_reducible refine w_seq ?_
  | with_reducible refine w_set ?_
  | with_reducible refine w_ret ?_
  | with_reducible refine w_cons ?_
  | with_reducible refine w_nil ?_
  | with_reducible refine w_c ?_
  | ((with_reducible refine' w_nm ?hnm ?_); (case hnm => exact rfl))
  | with_reducible refine w_bin ?_
  | with_reducible refine w_b ?_
  | with_reducible refine w_not ?_
  | with_reducible refine w_and ?_
  | with_reducible refine w_or ?_
  | with_reducible refine w_if ?_
  | with_reducible refine w_sif ?_
  | with_reducible refine w_chn ?_
  | with_reducible refine w_call ?_
  | with_reducible refine w_ca ?_
  | with_reducible refine w_tup ?_
  | with_reducible refine w_lst ?_
  | with_reducible refine w_isi ?_
  | with_reducible refine w_drop ?_
  | with_reducible refine w_snil ?_
  | with_reducible refine w_par ?_
  | with_reducible refine w_asg ?_
  | with_reducible refine w_for ?_
  | with_reducible refine w_lc ?_
  | with_reducible refine w_it ?_
  | with_reducible refine w_zip ?_
  | with_reducible refine w_enum ?_
  | with_reducible refine w_sl2 ?_
  | with_reducible refine w_eoN ?_
  | with_reducible refine w_eoS ?_
  | with_reducible refine w_me ?_
  | with_reducible refine w_rev ?_
  | ((with_reducible refine' w_app ?hap ?_); (case hap => exact rfl))
  | ((with_reducible refine' w_augI ?hap ?_); (case hap => exact rfl))
  | with_reducible refine w_rg1 ?_
  | with_reducible refine w_rg2 ?_
  | with_reducible refine w_scup ?_
  | with_reducible refine w_cup ?_
  | with_reducible refine w_neg ?_
  | with_reducible refine w_mean ?_
  | with_reducible refine ⟨_, dLt_ii, ?_⟩
  | with_reducible refine ⟨_, dGt_ii, ?_⟩
  | with_reducible refine ⟨_, dLe_ii, ?_⟩
  | with_reducible refine ⟨_, dGe_ii, ?_⟩
  | with_reducible refine ⟨_, dEq_ii, ?_⟩
  | with_reducible refine ⟨_, dNe_ii, ?_⟩
  | with_reducible refine ⟨_, dLe_ii, fun _ => ?_, fun _ => ?_⟩
  | with_reducible refine ⟨_, dLt_ii, fun _ => ?_, fun _ => ?_⟩
  | with_reducible refine ⟨_, dAdd_ii, ?_⟩
  | with_reducible refine ⟨_, dSub_ii, ?_⟩
  | with_reducible refine ⟨_, isi_int_int, ?_⟩
  | with_reducible refine ⟨_, isi_int_bool, ?_⟩
  | with_reducible refine ⟨_, isi_int_str, ?_⟩
  | with_reducible refine ⟨_, isi_int_tuple, ?_⟩
  | with_reducible refine ⟨_, isi_tuple_int, ?_⟩
  | with_reducible refine ⟨_, isi_tuple_bool, ?_⟩
  | with_reducible refine ⟨_, isi_tuple_str, ?_⟩
  | with_reducible refine ⟨_, isi_tuple_tuple, ?_⟩
  | with_reducible refine ⟨_, isi_str_int, ?_⟩
  | with_reducible refine ⟨_, isi_str_bool, ?_⟩
  | with_reducible refine ⟨_, isi_str_str, ?_⟩
  | with_reducible refine ⟨_, isi_str_tuple, ?_⟩
  | with_reducible refine ⟨_, isi_bool_int, ?_⟩
  | with_reducible refine ⟨_, isi_bool_bool, ?_⟩
  | with_reducible refine ⟨_, isi_bool_str, ?_⟩
  | with_reducible refine ⟨_, isi_bool_tuple, ?_⟩
  | with_reducible refine ⟨_, isi_none_int, ?_⟩
  | with_reducible refine ⟨_, isi_none_bool, ?_⟩
  | with_reducible refine ⟨_, isi_none_str, ?_⟩
  | with_reducible refine ⟨_, isi_none_tuple, ?_⟩
  | with_reducible refine ⟨_, isi_list_int, ?_⟩
  | with_reducible refine ⟨_, isi_list_bool, ?_⟩
  | with_reducible refine ⟨_, isi_list_str, ?_⟩
  | with_reducible refine ⟨_, isi_list_tuple, ?_⟩
  | with_reducible refine ⟨true, rfl, fun _ => ?_, fun h => absurd h (by decide)⟩
  | with_reducible refine ⟨false, rfl, fun h => absurd h (by decide), fun _ => ?_⟩
  | with_reducible refine ⟨_, rfl, fun hb => ?_, fun hb => ?_⟩
  | with_reducible refine ⟨_, rfl, ?_⟩
  | with_reducible refine ⟨fun hb => ?_, fun hb => ?_⟩
  | with_reducible exact ⟨rfl, rfl⟩)
theorem wp_of {α : Type} {r : Res α} {x : α} {k : Cup} (h : Wp r fun y c => y = x ∧ c = k) : r = .ok x k := by
  obtain ⟨y, c, e, rfl, rfl⟩ := h.ok
  exact e
theorem is_whole_int (i : Int) (cp : Cup) : m_is_whole [.int i] cp = .ok (.bool true) cp := by
  refine wp_of ?_
  unfold m_is_whole
  repeat walk_at "w"
theorem fits_whole_int (i a b : Int) (cp : Cup) : m_fits_whole [.int i, .int a, .int b] cp = .ok (.bool (decide (a ≤ i) && decide (i ≤ b))) cp := by
  refine wp_of ?_
  unfold m_fits_whole
  repeat walk_at "w"
  refine w_eq (is_whole_int i cp) ?_
  repeat walk_at "w"
  · rename_i hb; exact ⟨by rw [hb]; rfl, rfl⟩
  · rename_i hb; exact ⟨by rw [hb]; rfl, rfl⟩
theorem is_tuple_of_t (l : List D) (a b : Int) (cp : Cup) : m_is_tuple_of [.tuple l, .int a, .int b] cp = .ok (.bool (decide (a ≤ l.length) && decide ((l.length : Int) ≤ b))) cp := by
  refine wp_of ?_
  unfold m_is_tuple_of
  repeat walk_at "w"
  · rename_i hb; exact ⟨by rw [hb]; rfl, rfl⟩
  · rename_i hb; exact ⟨by rw [hb]; rfl, rfl⟩
/-- a country -/
abbrev C (hs : List Int) : D := .tuple (hs.map .int)
def COk (hs : List Int) : Prop := 1 ≤ hs.length ∧ hs.length ≤ 200 ∧ ∀ h ∈ hs, 0 ≤ h ∧ h ≤ 10000
theorem fits_country_ok {hs : List Int} (h : COk hs) (cp : Cup) : m_fits_country [C hs] cp = .ok (.bool true) cp := by
  obtain ⟨h1, h2, h3⟩ := h
  refine wp_of ?_
  unfold m_fits_country
  repeat walk_at "w"
  refine w_eq (is_tuple_of_t _ _ _ _) ?_
  rw [List.length_map, decide_eq_true (by omega), decide_eq_true (by omega)]
  repeat walk_at "w"
  refine w_eq (lcGo_pure (tt := fun _ => true) (ee := fun _ => .bool true) fun d hd => ?_) ?_
  · obtain ⟨i, hi, rfl⟩ := List.mem_map.mp hd
    refine ⟨_, rfl, fun cp => ⟨rfl, fun _ => wp_of ?_⟩⟩
    repeat walk_at "w"
    refine w_eq (fits_whole_int _ _ _ _) ?_
    rw [decide_eq_true (h3 i hi).1, decide_eq_true (h3 i hi).2]
    exact ⟨rfl, rfl⟩
  · repeat walk_at "w"
    refine ⟨_, bAll_true _, ?_⟩
    exact ⟨rfl, rfl⟩
/-! shapes -/
theorem canLayAll_of' {ds : List D} (h : ∀ d ∈ ds, d.canLay0 = true) : PyData.canLayAll0 ds = true := canLayAll_of h
theorem depthAll_le {k : Nat} : ∀ {ds : List D}, (∀ d ∈ ds, d.depth ≤ k) → PyData.depthAll ds ≤ k
  | [], _ => Nat.zero_le _
  | d :: ds, h => by
    rw [PyData.depthAll]
    exact Nat.max_le.mpr ⟨h d List.mem_cons_self, depthAll_le fun e he => h e (List.mem_cons_of_mem _ he)⟩
theorem shp_list {ds : List D} (h : ∀ d ∈ ds, d.canLay0 = true ∧ d.depth ≤ 63) : shp (.list ds) = true := by
  unfold shp
  rw [PyData.canLay0, canLayAll_of' fun d hd => (h d hd).1, PyData.depth, decide_eq_true (Nat.succ_le_succ (depthAll_le fun d hd => (h d hd).2))]
  rfl
theorem shp_tuple {ds : List D} (h : ∀ d ∈ ds, d.canLay0 = true ∧ d.depth ≤ 63) : shp (.tuple ds) = true := by
  unfold shp
  rw [PyData.canLay0, canLayAll_of' fun d hd => (h d hd).1, PyData.depth, decide_eq_true (Nat.succ_le_succ (depthAll_le fun d hd => (h d hd).2))]
  rfl
theorem lay_tuple {k : Nat} {ds : List D} (h : ∀ d ∈ ds, d.canLay0 = true ∧ d.depth ≤ k) : (PyData.tuple ds).canLay0 = true ∧ (PyData.tuple ds).depth ≤ k + 1 := by
  rw [PyData.canLay0, canLayAll_of' fun d hd => (h d hd).1, PyData.depth]
  exact ⟨rfl, Nat.succ_le_succ (depthAll_le fun d hd => (h d hd).2)⟩
theorem lay_int (i : Int) : (PyData.int i).canLay0 = true ∧ (PyData.int i).depth ≤ 0 := ⟨rfl, Nat.le_refl _⟩
theorem lay_str {x : Str} (h : PyData.strOk x = true) : (PyData.str x).canLay0 = true ∧ (PyData.str x).depth ≤ 0 := ⟨by rw [PyData.canLay0]; exact h, Nat.le_refl _⟩
/-! towers -/
abbrev Tw := Str × Int × Int
abbrev tw (t : Tw) : D := .tuple [.str t.1, .int t.2.1, .int t.2.2]
abbrev TT (ts : List Tw) : D := .tuple (ts.map tw)
def nameOk (x : Str) : Prop := PyData.strOk x = true ∧ ∀ cp, m_fits_name [.str x] cp = .ok (.bool true) cp
def strLt (x y : Str) : Prop := x.cps.toList < y.cps.toList
instance (x y : Str) : Decidable (strLt x y) := inferInstanceAs (Decidable (x.cps.toList < y.cps.toList))
def TOk (n : Nat) (ts : List Tw) : Prop := ts.length ≤ 24 ∧ (∀ t ∈ ts, nameOk t.1 ∧ 0 ≤ t.2.1 ∧ t.2.1 < n ∧ 0 ≤ t.2.2 ∧ t.2.2 ≤ 10000) ∧ (ts.map (·.1)).Pairwise strLt ∧ (ts.map (·.2.1)).Nodup
theorem lay_tw {t : Tw} (h : nameOk t.1) : (tw t).canLay0 = true ∧ (tw t).depth ≤ 1 := by
  refine lay_tuple fun d hd => ?_
  rcases List.mem_cons.mp hd with rfl | hd
  · exact lay_str h.1
  rcases List.mem_cons.mp hd with rfl | hd
  · exact lay_int _
  obtain rfl := List.mem_singleton.mp hd
  exact lay_int _
theorem fits_tower_ok {hs : List Int} {t : Tw} (h : nameOk t.1 ∧ 0 ≤ t.2.1 ∧ t.2.1 < hs.length ∧ 0 ≤ t.2.2 ∧ t.2.2 ≤ 10000) (cp : Cup) : m_fits_tower [C hs, tw t] cp = .ok (.bool true) cp := by
  obtain ⟨h1, h2, h3, h4, h5⟩ := h
  refine wp_of ?_
  unfold m_fits_tower
  repeat walk_at "w"
  refine w_eq (is_tuple_of_t _ _ _ _) ?_
  repeat walk_at "w"
  refine w_eq (h1.2 _) ?_
  repeat walk_at "w"
  refine w_eq (fits_whole_int _ _ _ _) ?_
  rw [List.length_map, decide_eq_true h2, decide_eq_true (by omega)]
  repeat walk_at "w"
  refine w_eq (fits_whole_int _ _ _ _) ?_
  rw [decide_eq_true h4, decide_eq_true h5]
  repeat walk_at "w"
theorem dLt_ss {x y : Str} (h : PyData.strOk x = true) (k : PyData.strOk y = true) : dLt (.str x) (.str y) = some (.bool (decide (strLt x y))) := by
  have e : cmpOk (.str x) (.str y) = true := by
    unfold cmpOk
    rw [shp_str h, shp_str k]
    rfl
  unfold dLt
  rw [if_pos e, PySem.W.dataLt_str]
  rfl
end MP.SI
namespace MP.SI
open PySem MP
local macro_rules | `(tactic| walk_at "w") => `(tactic| first
  | with_reducible refine w_seq ?_
  | with_reducible refine w_set ?_
  | with_reducible refine w_ret ?_
  | with_reducible refine w_cons ?_
  | with_reducible refine w_nil ?_
  | with_reducible refine w_c ?_
  | ((with_reducible refine' w_nm ?hnm ?_); (case hnm => exact rfl))
  | with_reducible refine w_bin ?_
  | with_reducible refine w_b ?_
  | with_reducible refine w_not ?_
  | with_reducible refine w_and ?_
  | with_reducible refine w_or ?_
  | with_reducible refine w_if ?_
  | with_reducible refine w_sif ?_
  | with_reducible refine w_chn ?_
  | with_reducible refine w_call ?_
  | with_reducible refine w_ca ?_
  | with_reducible refine w_tup ?_
  | with_reducible refine w_lst ?_
  | with_reducible refine w_isi ?_
  | with_reducible refine w_drop ?_
  | with_reducible refine w_snil ?_
  | with_reducible refine w_par ?_
  | with_reducible refine w_asg ?_
  | with_reducible refine w_for ?_
  | with_reducible refine w_lc ?_
  | with_reducible refine w_it ?_
  | with_reducible refine w_zip ?_
  | with_reducible refine w_enum ?_
  | with_reducible refine w_sl2 ?_
  | with_reducible refine w_eoN ?_
  | with_reducible refine w_eoS ?_
  | with_reducible refine w_me ?_
  | with_reducible refine w_rev ?_
  | ((with_reducible refine' w_app ?hap ?_); (case hap => exact rfl))
  | ((with_reducible refine' w_augI ?hap ?_); (case hap => exact rfl))
  | with_reducible refine w_rg1 ?_
  | with_reducible refine w_rg2 ?_
  | with_reducible refine w_scup ?_
  | with_reducible refine w_cup ?_
  | with_reducible refine w_neg ?_
  | with_reducible refine w_mean ?_
  | with_reducible refine ⟨_, dLt_ii, ?_⟩
  | with_reducible refine ⟨_, dGt_ii, ?_⟩
  | with_reducible refine ⟨_, dLe_ii, ?_⟩
  | with_reducible refine ⟨_, dGe_ii, ?_⟩
  | with_reducible refine ⟨_, dEq_ii, ?_⟩
  | with_reducible refine ⟨_, dNe_ii, ?_⟩
  | with_reducible refine ⟨_, dLe_ii, fun _ => ?_, fun _ => ?_⟩
  | with_reducible refine ⟨_, dLt_ii, fun _ => ?_, fun _ => ?_⟩
  | with_reducible refine ⟨_, dAdd_ii, ?_⟩
  | with_reducible refine ⟨_, dSub_ii, ?_⟩
  | with_reducible refine ⟨_, isi_int_int, ?_⟩
  | with_reducible refine ⟨_, isi_int_bool, ?_⟩
  | with_reducible refine ⟨_, isi_int_str, ?_⟩
  | with_reducible refine ⟨_, isi_int_tuple, ?_⟩
  | with_reducible refine ⟨_, isi_tuple_int, ?_⟩
  | with_reducible refine ⟨_, isi_tuple_bool, ?_⟩
  | with_reducible refine ⟨_, isi_tuple_str, ?_⟩
  | with_reducible refine ⟨_, isi_tuple_tuple, ?_⟩
  | with_reducible refine ⟨_, isi_str_int, ?_⟩
  | with_reducible refine ⟨_, isi_str_bool, ?_⟩
  | with_reducible refine ⟨_, isi_str_str, ?_⟩
  | with_reducible refine ⟨_, isi_str_tuple, ?_⟩
  | with_reducible refine ⟨_, isi_bool_int, ?_⟩
  | with_reducible refine ⟨_, isi_bool_bool, ?_⟩
  | with_reducible refine ⟨_, isi_bool_str, ?_⟩
  | with_reducible refine ⟨_, isi_bool_tuple, ?_⟩
  | with_reducible refine ⟨_, isi_none_int, ?_⟩
  | with_reducible refine ⟨_, isi_none_bool, ?_⟩
  | with_reducible refine ⟨_, isi_none_str, ?_⟩
  | with_reducible refine ⟨_, isi_none_tuple, ?_⟩
  | with_reducible refine ⟨_, isi_list_int, ?_⟩
  | with_reducible refine ⟨_, isi_list_bool, ?_⟩
  | with_reducible refine ⟨_, isi_list_str, ?_⟩
  | with_reducible refine ⟨_, isi_list_tuple, ?_⟩
  | with_reducible refine ⟨true, rfl, fun _ => ?_, fun h => absurd h (by decide)⟩
  | with_reducible refine ⟨false, rfl, fun h => absurd h (by decide), fun _ => ?_⟩
  | with_reducible refine ⟨_, rfl, fun hb => ?_, fun hb => ?_⟩
  | with_reducible refine ⟨_, rfl, ?_⟩
  | with_reducible refine ⟨fun hb => ?_, fun hb => ?_⟩
  | with_reducible exact ⟨rfl, rfl⟩
  | with_reducible refine ⟨(rfl : isLst _ = true), ?_⟩)
theorem zipTail_mem {α : Type} : ∀ {l : List α} {R : α → α → Prop}, l.Pairwise R → ∀ p ∈ l.zip (l.drop 1), R p.1 p.2
  | [], _, _, p, h => by simp at h
  | [a], _, _, p, h => by simp at h
  | a :: b :: l, R, hp, p, h => by
    have h' : p ∈ (a, b) :: (b :: l).zip l := h
    rcases List.mem_cons.mp h' with rfl | h'
    · exact (List.pairwise_cons.mp hp).1 b List.mem_cons_self
    · exact zipTail_mem (l := b :: l) (List.pairwise_cons.mp hp).2 p h'
theorem cut_drop {α : Type} (l : List α) (n : Nat) : cutL l (some (n : Int)) none = l.drop n := by
  unfold cutL
  rw [show HT.sIx l.length 0 (some (n : Int)) = min n l.length from HT.sIx_nat l.length 0 n, HT.sIx_none]
  by_cases h : n ≤ l.length
  · rw [Nat.min_eq_left h, List.take_of_length_le (by rw [List.length_drop]; omega)]
  · rw [Nat.min_eq_right (by omega), Nat.sub_self, List.take_zero, List.drop_eq_nil_of_le (by omega)]
theorem cut_drop1 {α : Type} (l : List α) : cutL l (some 1) none = l.drop 1 := cut_drop l 1
theorem is_rising_strs {xs : List Str} (h : xs.Pairwise strLt) (hs : ∀ x ∈ xs, PyData.strOk x = true) (cp : Cup) : m_is_rising [.list (xs.map .str)] cp = .ok (.bool true) cp := by
  refine wp_of ?_
  unfold m_is_rising
  repeat walk_at "w"
  refine w_eq (lcGo_pure (tt := fun _ => true) (ee := fun _ => .bool true) fun d hd => ?_) ?_
  · rw [cut_drop1] at hd
    unfold zipL at hd
    obtain ⟨p, hp, rfl⟩ := List.mem_map.mp hd
    rw [← List.map_drop, List.zip_map] at hp
    obtain ⟨q, hq, rfl⟩ := List.mem_map.mp hp
    refine ⟨_, rfl, fun cp => ⟨rfl, fun _ => wp_of ?_⟩⟩
    repeat walk_at "w"
    have h1 : PyData.strOk q.1 = true := hs _ (List.of_mem_zip hq).1
    have h2 : PyData.strOk q.2 = true := hs _ (List.mem_of_mem_drop (List.of_mem_zip hq).2)
    refine ⟨_, dLt_ss h1 h2, ?_⟩
    rw [decide_eq_true (zipTail_mem h q hq)]
    exact ⟨rfl, rfl⟩
  · repeat walk_at "w"
    exact ⟨_, bAll_true _, rfl, rfl⟩
theorem eqv_ss {x y : Str} : PyData.eqv (.str x) (.str y) = decide (x = y) := by
  rw [PyData.eqv]
  by_cases h : x = y
  · subst h; simp
  · rw [decide_eq_false h]; simpa using h
theorem dEq_ss {x y : Str} (h : PyData.strOk x = true) (k : PyData.strOk y = true) : dEq (.str x) (.str y) = some (.bool (decide (x = y))) := by
  unfold dEq
  rw [if_pos (by rw [shp_str h, shp_str k]; rfl), eqv_ss]
theorem countP_ints (l : List Int) (i : Int) : ((l.map PyData.int).countP fun y => PyData.eqv y (.int i)) = l.count i := by
  rw [List.countP_map]
  show _ = List.countP _ _
  congr 1
theorem count_one {l : List Int} {i : Int} (h : l.Nodup) (hi : i ∈ l) : l.count i = 1 := by
  induction l with
  | nil => cases hi
  | cons a l ih =>
    obtain ⟨h1, h2⟩ := List.nodup_cons.mp h
    rcases List.mem_cons.mp hi with rfl | hi
    · rw [List.count_cons_self, List.count_eq_zero_of_not_mem h1]
    · have : a ≠ i := fun e => h1 (e ▸ hi)
      rw [List.count_cons_of_ne this, ih h2 hi]
theorem count_ints (l : List Int) (i : Int) : mCount (.list (l.map .int)) [.int i] = some (.int (l.count i : Nat)) := by
  have h : (shp (.list (l.map PyData.int)) && shp (.int i)) = true := by
    rw [shp_list fun d hd => by obtain ⟨j, _, rfl⟩ := List.mem_map.mp hd; exact ⟨rfl, Nat.zero_le _⟩]
    rfl
  show (if (shp (.list (l.map PyData.int)) && shp (.int i)) = true then some (PyData.int ((l.map PyData.int).countP fun y => PyData.eqv y (.int i) : Nat)) else none) = _
  rw [if_pos h, countP_ints]
theorem fits_towers_ok {hs : List Int} {ts : List Tw} (h : TOk hs.length ts) (cp : Cup) : m_fits_towers [C hs, TT ts] cp = .ok (.bool true) cp := by
  obtain ⟨h1, h2, h3, h4⟩ := h
  refine wp_of ?_
  unfold m_fits_towers
  repeat walk_at "w"
  refine w_eq (is_tuple_of_t _ _ _ _) ?_
  rw [List.length_map, decide_eq_true (by omega), decide_eq_true (by omega)]
  repeat walk_at "w"
  refine w_eq (lcGo_pure (tt := fun _ => true) (ee := fun _ => .bool true) fun d hd => ?_) ?_
  · obtain ⟨t, ht, rfl⟩ := List.mem_map.mp hd
    refine ⟨_, rfl, fun cp => ⟨rfl, fun _ => wp_of ?_⟩⟩
    repeat walk_at "w"
    exact w_eq (fits_tower_ok (h2 t ht) _) ⟨rfl, rfl⟩
  · repeat walk_at "w"
    refine ⟨_, bAll_true _, ?_⟩
    repeat walk_at "w"
    refine w_eq (lcGo_pure (tt := fun _ => true) (ee := fun d => match d with | .tuple [_, p, _] => p | _ => .none) fun d hd => ?_) ?_
    · obtain ⟨t, ht, rfl⟩ := List.mem_map.mp hd
      refine ⟨_, rfl, fun cp => ⟨rfl, fun _ => wp_of ?_⟩⟩
      repeat walk_at "w"
    · repeat walk_at "w"
      refine w_eq (lcGo_pure (tt := fun _ => true) (ee := fun d => match d with | .tuple [x, _, _] => x | _ => .none) fun d hd => ?_) ?_
      · obtain ⟨t, ht, rfl⟩ := List.mem_map.mp hd
        refine ⟨_, rfl, fun cp => ⟨rfl, fun _ => wp_of ?_⟩⟩
        repeat walk_at "w"
      · repeat walk_at "w"
        have e1 : (((ts.map tw).filter fun _ => true).map fun d => match d with | .tuple [x, _, _] => x | _ => PyData.none) = (ts.map (·.1)).map .str := by
          rw [List.filter_eq_self.mpr fun _ _ => rfl, List.map_map, List.map_map]
          rfl
        have e2 : (((ts.map tw).filter fun _ => true).map fun d => match d with | .tuple [_, p, _] => p | _ => PyData.none) = (ts.map (·.2.1)).map .int := by
          rw [List.filter_eq_self.mpr fun _ _ => rfl, List.map_map, List.map_map]
          rfl
        rw [e1, e2]
        refine w_eq (is_rising_strs h3 (fun x hx => by
          obtain ⟨t, ht, rfl⟩ := List.mem_map.mp hx
          exact (h2 t ht).1.1) _) ?_
        repeat walk_at "w"
        refine w_eq (lcGo_pure (tt := fun _ => true) (ee := fun _ => .bool true) fun d hd => ?_) ?_
        · obtain ⟨i, hi, rfl⟩ := List.mem_map.mp hd
          refine ⟨_, rfl, fun cp => ⟨rfl, fun _ => wp_of ?_⟩⟩
          repeat walk_at "w"
          refine ⟨_, count_ints _ _, ?_⟩
          repeat walk_at "w"
          have : (ts.map (·.2.1)).count i = 1 := count_one h4 hi
          rw [this]
          exact ⟨rfl, rfl⟩
        · repeat walk_at "w"
          exact ⟨_, bAll_true _, rfl, rfl⟩
theorem need_country_ok {hs : List Int} (h : COk hs) (cp : Cup) : m_need_country [C hs] cp = .ok .none cp := by
  refine wp_of ?_
  unfold m_need_country
  repeat walk_at "w"
  refine w_eq (fits_country_ok h _) ?_
  repeat walk_at "w"
theorem need_towers_ok {hs : List Int} {ts : List Tw} (h : COk hs) (k : TOk hs.length ts) (cp : Cup) : m_need_towers [C hs, TT ts] cp = .ok .none cp := by
  refine wp_of ?_
  unfold m_need_towers
  repeat walk_at "w"
  refine w_eq (need_country_ok h _) ?_
  repeat walk_at "w"
  refine w_eq (fits_towers_ok k _) ?_
  repeat walk_at "w"
theorem need_place_ok {hs : List Int} {p : Int} (h : 0 ≤ p) (k : p < hs.length) (cp : Cup) : m_need_place [C hs, .int p] cp = .ok .none cp := by
  refine wp_of ?_
  unfold m_need_place
  repeat walk_at "w"
  refine w_eq (fits_whole_int _ _ _ _) ?_
  rw [List.length_map, decide_eq_true h, decide_eq_true (by omega)]
  repeat walk_at "w"
theorem need_mast_ok {m : Int} (h : 0 ≤ m) (k : m ≤ 10000) (cp : Cup) : m_need_mast [.int m] cp = .ok .none cp := by
  refine wp_of ?_
  unfold m_need_mast
  repeat walk_at "w"
  refine w_eq (fits_whole_int _ _ _ _) ?_
  rw [decide_eq_true h, decide_eq_true k]
  repeat walk_at "w"
theorem atI_ints {hs : List Int} {p : Nat} {v : Int} (h : hs[p]? = some v) : dIx (C hs) (.int p) = some (.int v) := by
  show L2.atI (hs.map PyData.int) (p : Int) = _
  exact L2.atI_nat (by rw [List.getElem?_map, h]; rfl)
theorem top_in_ok {hs : List Int} {x : Str} {p : Nat} {m v : Int} (h : hs[p]? = some v) (cp : Cup) : m_top_in [C hs, tw (x, p, m)] cp = .ok (.tuple [.int p, .int (v + m)]) cp := by
  refine wp_of ?_
  unfold m_top_in
  repeat walk_at "w"
  refine ⟨_, atI_ints h, ?_⟩
  repeat walk_at "w"
end MP.SI
namespace MP.SI
open PySem MP
local macro_rules | `(tactic| walk_at "w") => `(tactic| first
  | with_reducible refine w_seq ?_
  | with_reducible refine w_set ?_
  | with_reducible refine w_ret ?_
  | with_reducible refine w_cons ?_
  | with_reducible refine w_nil ?_
  | with_reducible refine w_c ?_
  | ((with_reducible refine' w_nm ?hnm ?_); (case hnm => exact rfl))
  | with_reducible refine w_bin ?_
  | with_reducible refine w_b ?_
  | with_reducible refine w_not ?_
  | with_reducible refine w_and ?_
  | with_reducible refine w_or ?_
  | with_reducible refine w_if ?_
  | with_reducible refine w_sif ?_
  | with_reducible refine w_chn ?_
  | with_reducible refine w_call ?_
  | with_reducible refine w_ca ?_
  | with_reducible refine w_tup ?_
  | with_reducible refine w_lst ?_
  | with_reducible refine w_isi ?_
  | with_reducible refine w_drop ?_
  | with_reducible refine w_snil ?_
  | with_reducible refine w_par ?_
  | with_reducible refine w_asg ?_
  | with_reducible refine w_for ?_
  | with_reducible refine w_lc ?_
  | with_reducible refine w_it ?_
  | with_reducible refine w_zip ?_
  | with_reducible refine w_enum ?_
  | with_reducible refine w_sl2 ?_
  | with_reducible refine w_eoN ?_
  | with_reducible refine w_eoS ?_
  | with_reducible refine w_me ?_
  | with_reducible refine w_rev ?_
  | ((with_reducible refine' w_app ?hap ?_); (case hap => exact rfl))
  | ((with_reducible refine' w_augI ?hap ?_); (case hap => exact rfl))
  | with_reducible refine w_rg1 ?_
  | with_reducible refine w_rg2 ?_
  | with_reducible refine w_scup ?_
  | with_reducible refine w_cup ?_
  | with_reducible refine w_neg ?_
  | with_reducible refine w_mean ?_
  | with_reducible refine ⟨_, dLt_ii, ?_⟩
  | with_reducible refine ⟨_, dGt_ii, ?_⟩
  | with_reducible refine ⟨_, dLe_ii, ?_⟩
  | with_reducible refine ⟨_, dGe_ii, ?_⟩
  | with_reducible refine ⟨_, dEq_ii, ?_⟩
  | with_reducible refine ⟨_, dNe_ii, ?_⟩
  | with_reducible refine ⟨_, dLe_ii, fun _ => ?_, fun _ => ?_⟩
  | with_reducible refine ⟨_, dLt_ii, fun _ => ?_, fun _ => ?_⟩
  | with_reducible refine ⟨_, dAdd_ii, ?_⟩
  | with_reducible refine ⟨_, dSub_ii, ?_⟩
  | with_reducible refine ⟨_, isi_int_int, ?_⟩
  | with_reducible refine ⟨_, isi_int_bool, ?_⟩
  | with_reducible refine ⟨_, isi_int_str, ?_⟩
  | with_reducible refine ⟨_, isi_int_tuple, ?_⟩
  | with_reducible refine ⟨_, isi_tuple_int, ?_⟩
  | with_reducible refine ⟨_, isi_tuple_bool, ?_⟩
  | with_reducible refine ⟨_, isi_tuple_str, ?_⟩
  | with_reducible refine ⟨_, isi_tuple_tuple, ?_⟩
  | with_reducible refine ⟨_, isi_str_int, ?_⟩
  | with_reducible refine ⟨_, isi_str_bool, ?_⟩
  | with_reducible refine ⟨_, isi_str_str, ?_⟩
  | with_reducible refine ⟨_, isi_str_tuple, ?_⟩
  | with_reducible refine ⟨_, isi_bool_int, ?_⟩
  | with_reducible refine ⟨_, isi_bool_bool, ?_⟩
  | with_reducible refine ⟨_, isi_bool_str, ?_⟩
  | with_reducible refine ⟨_, isi_bool_tuple, ?_⟩
  | with_reducible refine ⟨_, isi_none_int, ?_⟩
  | with_reducible refine ⟨_, isi_none_bool, ?_⟩
  | with_reducible refine ⟨_, isi_none_str, ?_⟩
  | with_reducible refine ⟨_, isi_none_tuple, ?_⟩
  | with_reducible refine ⟨_, isi_list_int, ?_⟩
  | with_reducible refine ⟨_, isi_list_bool, ?_⟩
  | with_reducible refine ⟨_, isi_list_str, ?_⟩
  | with_reducible refine ⟨_, isi_list_tuple, ?_⟩
  | with_reducible refine ⟨true, rfl, fun _ => ?_, fun h => absurd h (by decide)⟩
  | with_reducible refine ⟨false, rfl, fun h => absurd h (by decide), fun _ => ?_⟩
  | with_reducible refine ⟨_, rfl, fun hb => ?_, fun hb => ?_⟩
  | with_reducible refine ⟨_, rfl, ?_⟩
  | with_reducible refine ⟨fun hb => ?_, fun hb => ?_⟩
  | with_reducible exact ⟨rfl, rfl⟩
  | with_reducible refine ⟨(rfl : isLst _ = true), ?_⟩)
theorem filter_key {ts : List Tw} {t : Tw} (nd : (ts.map (·.1)).Nodup) (ht : t ∈ ts) : ts.filter (fun u => decide (u.1 = t.1)) = [t] := by
  induction ts with
  | nil => cases ht
  | cons u ts ih =>
    obtain ⟨h1, h2⟩ := List.nodup_cons.mp nd
    rcases List.mem_cons.mp ht with rfl | ht
    · rw [List.filter_cons_of_pos (by simp)]
      congr 1
      refine List.filter_eq_nil_iff.mpr fun v hv => ?_
      simp only [decide_eq_true_eq]
      exact fun e => h1 (List.mem_map.mpr ⟨v, hv, e⟩)
    · rw [List.filter_cons_of_neg, ih h2 ht]
      simp only [decide_eq_true_eq]
      exact fun e => h1 (List.mem_map.mpr ⟨t, ht, e.symm⟩)
theorem strLt_irrefl (x : Str) : ¬ strLt x x := List.lt_irrefl _
theorem tok_nodup {n : Nat} {ts : List Tw} (h : TOk n ts) : (ts.map (·.1)).Nodup := List.Pairwise.imp (fun {a b} hab e => by subst e; exact strLt_irrefl _ hab) h.2.2.1
theorem tower_in_ok {n : Nat} {ts : List Tw} {t : Tw} (h : TOk n ts) (ht : t ∈ ts) (cp : Cup) : m_tower_in [TT ts, .str t.1] cp = .ok (tw t) cp := by
  refine wp_of ?_
  unfold m_tower_in
  repeat walk_at "w"
  refine w_eq (lcGo_pure (tt := fun d => match d with | .tuple [.str x, _, _] => decide (x = t.1) | _ => false) (ee := id) fun d hd => ?_) ?_
  · obtain ⟨u, hu, rfl⟩ := List.mem_map.mp hd
    refine ⟨_, rfl, fun cp => ⟨wp_of ?_, fun _ => wp_of ?_⟩⟩
    · repeat walk_at "w"
      refine ⟨_, dEq_ss (h.2.1 u hu).1.1 (h.2.1 t ht).1.1, ?_⟩
      repeat walk_at "w"
    · repeat walk_at "w"
  · have e1 : (((ts.map tw).filter fun d => match d with | .tuple [.str x, _, _] => decide (x = t.1) | _ => false).map id) = [tw t] := by
      rw [List.map_id, List.filter_map]
      have : (ts.filter ((fun d => match d with | PyData.tuple [.str x, _, _] => decide (x = t.1) | _ => false) ∘ tw)) = [t] := filter_key (tok_nodup h) ht
      rw [this]
      rfl
    rw [e1]
    repeat walk_at "w"
    have e2 : dEq (.list [tw t]) (.list []) = some (.bool false) := by
      unfold dEq
      rw [if_pos]
      · rfl
      · rw [shp_list fun d hd => by
          obtain rfl := List.mem_singleton.mp hd
          exact ⟨(lay_tw (h.2.1 t ht).1).1, Nat.le_trans (lay_tw (h.2.1 t ht).1).2 (by decide)⟩]
        rfl
    refine ⟨_, e2, ?_⟩
    repeat walk_at "w"
/-! sights -/
abbrev T2 (a : Nat) (x : Int) : D := .tuple [.int a, .int x]
theorem okMul_r {i j : Int} (h : -18446744073709551616 < j) (k : j < 18446744073709551616) : okMul i j = true := by
  unfold okMul
  simp [h, k]
theorem dMulr {i j : Int} (h : -18446744073709551616 < j) (k : j < 18446744073709551616) : dMul (.int i) (.int j) = some (.int (i * j)) := dMul_ii (okMul_r h k)
theorem min_lt {a b : Nat} {x y : Int} (h : a < b) : bMin2 [T2 a x, T2 b y] = some (T2 a x) := by
  show (if (cmpOk (T2 a x) (T2 b y) && cmpOk (T2 b y) (T2 a x) && !isBox (T2 a x) && !isBox (T2 b y)) = true then some (if PySem.W.dataLt (T2 b y) (T2 a x) then T2 b y else T2 a x) else none) = _
  rw [if_pos (by rfl), PySem.W.dataLt_ii, if_neg (by simp only [decide_eq_true_eq]; omega)]
theorem min_gt {a b : Nat} {x y : Int} (h : a < b) : bMin2 [T2 b y, T2 a x] = some (T2 a x) := by
  show (if (cmpOk (T2 b y) (T2 a x) && cmpOk (T2 a x) (T2 b y) && !isBox (T2 b y) && !isBox (T2 a x)) = true then some (if PySem.W.dataLt (T2 a x) (T2 b y) then T2 a x else T2 b y) else none) = _
  rw [if_pos (by rfl), PySem.W.dataLt_ii, if_pos (by simp only [decide_eq_true_eq]; omega)]
theorem max_lt {a b : Nat} {x y : Int} (h : a < b) : bMax2 [T2 a x, T2 b y] = some (T2 b y) := by
  show (if (cmpOk (T2 a x) (T2 b y) && cmpOk (T2 b y) (T2 a x) && !isBox (T2 a x) && !isBox (T2 b y)) = true then some (if PySem.W.dataLt (T2 a x) (T2 b y) then T2 b y else T2 a x) else none) = _
  rw [if_pos (by rfl), PySem.W.dataLt_ii, if_pos (by simp only [decide_eq_true_eq]; omega)]
theorem max_gt {a b : Nat} {x y : Int} (h : a < b) : bMax2 [T2 b y, T2 a x] = some (T2 b y) := by
  show (if (cmpOk (T2 b y) (T2 a x) && cmpOk (T2 a x) (T2 b y) && !isBox (T2 b y) && !isBox (T2 a x)) = true then some (if PySem.W.dataLt (T2 b y) (T2 a x) then T2 a x else T2 b y) else none) = _
  rw [if_pos (by rfl), PySem.W.dataLt_ii, if_neg (by simp only [decide_eq_true_eq]; omega)]
theorem min_same {a : Nat} {x : Int} : bMin2 [T2 a x, T2 a x] = some (T2 a x) := by
  show (if (cmpOk (T2 a x) (T2 a x) && cmpOk (T2 a x) (T2 a x) && !isBox (T2 a x) && !isBox (T2 a x)) = true then some (if PySem.W.dataLt (T2 a x) (T2 a x) then T2 a x else T2 a x) else none) = _
  rw [if_pos (by rfl), ite_self]
theorem max_same {a : Nat} {x : Int} : bMax2 [T2 a x, T2 a x] = some (T2 a x) := by
  show (if (cmpOk (T2 a x) (T2 a x) && cmpOk (T2 a x) (T2 a x) && !isBox (T2 a x) && !isBox (T2 a x)) = true then some (if PySem.W.dataLt (T2 a x) (T2 a x) then T2 a x else T2 a x) else none) = _
  rw [if_pos (by rfl), ite_self]
/-- whether place p bars the sight between the tops (a, x) and (b, y) -/
def barAt (hs : List Int) (a b : Nat) (x y : Int) (p : Nat) : Bool := decide (x * ((b : Int) - p) + y * ((p : Int) - a) ≤ hs.getD p 0 * ((b : Int) - a))
def mids (a b : Nat) : List Nat := (List.range (b - a - 1)).map (a + 1 + ·)
theorem mem_mids {a b p : Nat} : p ∈ mids a b ↔ a < p ∧ p < b := by
  unfold mids
  simp only [List.mem_map, List.mem_range]
  constructor
  · rintro ⟨i, h, rfl⟩
    omega
  · intro ⟨h1, h2⟩
    exact ⟨p - a - 1, by omega, by omega⟩
theorem range_mids {a b : Nat} (h : a < b) : rangeL ((a : Int) + 1) ((b : Int) - (a + 1)).toNat = (mids a b).map fun p : Nat => .int p := by
  unfold rangeL mids
  rw [List.map_map, show ((b : Int) - (a + 1)).toNat = b - a - 1 by omega]
  refine List.map_congr_left fun i _ => ?_
  show PyData.int _ = PyData.int _
  congr 1
theorem okR_of {i : Int} (h : -4611686018427387904 ≤ i) (k : i < 4611686018427387904) : okR i = true := by
  unfold okR
  simp [h, k]
theorem okLen_of {n : Nat} (h : n ≤ 16777216) : okLen n = true := by
  unfold okLen
  simp [h]
theorem open_loop {hs : List Int} {a b : Nat} {x y : Int} {o1 o2 : D} (hb : b < hs.length) (hl : hs.length ≤ 200) (h : a < b) (cp : Cup) (z : Option D) (PO : Out → Cup → Prop)
    (k1 : (mids a b).all (fun p => !barAt hs a b x y p) = true → ∀ z, PO (.nx [some (C hs), some o1, some o2, some (.int a), some (.int x), some (.int b), some (.int y), z]) cp)
    (k2 : (mids a b).all (fun p => !barAt hs a b x y p) = false → PO (.rt (.bool false)) cp) :
    Wp (forGo (gNm 7) (sIf (eB (eBin dGe (eBin dMul (eBin dIx (eNm 0) (eNm 7)) (eBin dSub (eNm 5) (eNm 3))) (eBin dAdd (eBin dMul (eNm 4) (eBin dSub (eNm 5) (eNm 7))) (eBin dMul (eNm 6) (eBin dSub (eNm 7) (eNm 3)))))) (sRet (eC (.bool false))) sNil)
      ((mids a b).map fun p : Nat => .int p) [some (C hs), some o1, some o2, some (.int a), some (.int x), some (.int b), some (.int y), z] cp) PO := by
  refine forGo_inv (I := fun dn r env c => c = cp ∧ (∃ z, env = [some (C hs), some o1, some o2, some (.int a), some (.int x), some (.int b), some (.int y), z]) ∧ ∃ ps, dn = ps.map (fun p : Nat => PyData.int p) ∧ ∀ p ∈ ps, barAt hs a b x y p = false) (ds0 := (mids a b).map fun p : Nat => .int p) ?_ ?_ _ [] _ _ rfl ⟨rfl, ⟨z, rfl⟩, [], rfl, fun p hp => by cases hp⟩
  · rintro dn d r env c e ⟨rfl, ⟨z, rfl⟩, ps, rfl, hps⟩
    obtain ⟨l1, l2, e1, e2, e3⟩ := List.map_eq_append_iff.mp e
    obtain ⟨p, l3, rfl, rfl, e4⟩ := List.map_eq_cons_iff.mp e3
    have hp : a < p ∧ p < b := mem_mids.mp (by rw [e1]; simp)
    have hv : hs[p]? = some (hs.getD p 0) := by
      rw [List.getD_eq_getElem?_getD, List.getElem?_eq_getElem (by omega)]
      rfl
    refine ⟨_, rfl, ?_⟩
    repeat walk_at "w"
    refine ⟨_, atI_ints hv, ?_⟩
    repeat walk_at "w"
    refine ⟨_, dMulr (by omega) (by omega), ?_⟩
    repeat walk_at "w"
    refine ⟨_, dMulr (by omega) (by omega), ?_⟩
    repeat walk_at "w"
    refine ⟨_, dMulr (by omega) (by omega), ?_⟩
    repeat walk_at "w"
    · rename_i hb2
      refine k2 ?_
      rw [Bool.eq_false_iff]
      intro hall
      have := List.all_eq_true.mp hall p (by rw [e1]; simp)
      have hb3 : barAt hs a b x y p = true := hb2
      rw [hb3] at this
      cases this
    · rename_i hb2
      refine ⟨rfl, ⟨_, rfl⟩, ps ++ [p], by rw [List.map_append]; rfl, fun q hq => ?_⟩
      rcases List.mem_append.mp hq with hq | hq
      · exact hps q hq
      · obtain rfl := List.mem_singleton.mp hq
        exact hb2
  · rintro env c ⟨rfl, ⟨z, rfl⟩, ps, e, hps⟩
    refine k1 (List.all_eq_true.mpr fun p hp => ?_) z
    have : p ∈ ps := by
      have : PyData.int p ∈ ps.map (fun p : Nat => PyData.int p) := by rw [← e]; exact List.mem_map.mpr ⟨p, hp, rfl⟩
      obtain ⟨q, hq, e2⟩ := List.mem_map.mp this
      have : (q : Int) = p := PyData.int.inj e2
      obtain rfl : q = p := by omega
      exact hq
    rw [hps p this]
    rfl
theorem is_open_lt {hs : List Int} {a b : Nat} {x y : Int} (hb : b < hs.length) (hl : hs.length ≤ 200) (h : a < b) (cp : Cup) : m_is_open [C hs, T2 a x, T2 b y] cp = .ok (.bool ((mids a b).all fun p => !barAt hs a b x y p)) cp := by
  refine wp_of ?_
  unfold m_is_open
  repeat walk_at "w"
  rw [PySem.W.dataLt_ii, if_neg (by simp only [decide_eq_true_eq]; omega), PySem.W.dataLt_ii, if_pos (by simp only [decide_eq_true_eq]; omega)]
  refine ⟨_, rfl, ?_⟩
  repeat walk_at "w"
  refine ⟨_, _, rfl, rfl, okR_of (by omega) (by omega), okR_of (by omega) (by omega), okLen_of (by omega), ?_⟩
  rw [range_mids h]
  refine open_loop hb hl h _ _ _ (fun e z => ?_) (fun e => ?_)
  · rw [e]
    repeat walk_at "w"
  · rw [e]
    exact ⟨rfl, rfl⟩
theorem is_open_gt {hs : List Int} {a b : Nat} {x y : Int} (hb : b < hs.length) (hl : hs.length ≤ 200) (h : a < b) (cp : Cup) : m_is_open [C hs, T2 b y, T2 a x] cp = .ok (.bool ((mids a b).all fun p => !barAt hs a b x y p)) cp := by
  refine wp_of ?_
  unfold m_is_open
  repeat walk_at "w"
  rw [PySem.W.dataLt_ii, if_pos (by simp only [decide_eq_true_eq]; omega), PySem.W.dataLt_ii, if_neg (by simp only [decide_eq_true_eq]; omega)]
  refine ⟨_, rfl, ?_⟩
  repeat walk_at "w"
  refine ⟨_, _, rfl, rfl, okR_of (by omega) (by omega), okR_of (by omega) (by omega), okLen_of (by omega), ?_⟩
  rw [range_mids h]
  refine open_loop hb hl h _ _ _ (fun e z => ?_) (fun e => ?_)
  · rw [e]
    repeat walk_at "w"
  · rw [e]
    exact ⟨rfl, rfl⟩
end MP.SI
namespace MP.SI
open PySem MP
local macro_rules | `(tactic| walk_at "w") => `(tactic| first
  | with_reducible refine w_seq ?_
  | with_reducible refine w_set ?_
  | with_reducible refine w_ret ?_
  | with_reducible refine w_cons ?_
  | with_reducible refine w_nil ?_
  | with_reducible refine w_c ?_
  | ((with_reducible refine' w_nm ?hnm ?_); (case hnm => exact rfl))
  | with_reducible refine w_bin ?_
  | with_reducible refine w_b ?_
  | with_reducible refine w_not ?_
  | with_reducible refine w_and ?_
  | with_reducible refine w_or ?_
  | with_reducible refine w_if ?_
  | with_reducible refine w_sif ?_
  | with_reducible refine w_chn ?_
  | with_reducible refine w_call ?_
  | with_reducible refine w_ca ?_
  | with_reducible refine w_tup ?_
  | with_reducible refine w_lst ?_
  | with_reducible refine w_isi ?_
  | with_reducible refine w_drop ?_
  | with_reducible refine w_snil ?_
  | with_reducible refine w_par ?_
  | with_reducible refine w_asg ?_
  | with_reducible refine w_for ?_
  | with_reducible refine w_lc ?_
  | with_reducible refine w_it ?_
  | with_reducible refine w_zip ?_
  | with_reducible refine w_enum ?_
  | with_reducible refine w_sl2 ?_
  | with_reducible refine w_eoN ?_
  | with_reducible refine w_eoS ?_
  | with_reducible refine w_me ?_
  | with_reducible refine w_rev ?_
  | ((with_reducible refine' w_app ?hap ?_); (case hap => exact rfl))
  | ((with_reducible refine' w_augI ?hap ?_); (case hap => exact rfl))
  | with_reducible refine w_rg1 ?_
  | with_reducible refine w_rg2 ?_
  | with_reducible refine w_scup ?_
  | with_reducible refine w_cup ?_
  | with_reducible refine w_neg ?_
  | with_reducible refine w_mean ?_
  | with_reducible refine ⟨_, dLt_ii, ?_⟩
  | with_reducible refine ⟨_, dGt_ii, ?_⟩
  | with_reducible refine ⟨_, dLe_ii, ?_⟩
  | with_reducible refine ⟨_, dGe_ii, ?_⟩
  | with_reducible refine ⟨_, dEq_ii, ?_⟩
  | with_reducible refine ⟨_, dNe_ii, ?_⟩
  | with_reducible refine ⟨_, dLe_ii, fun _ => ?_, fun _ => ?_⟩
  | with_reducible refine ⟨_, dLt_ii, fun _ => ?_, fun _ => ?_⟩
  | with_reducible refine ⟨_, dAdd_ii, ?_⟩
  | with_reducible refine ⟨_, dSub_ii, ?_⟩
  | with_reducible refine ⟨_, isi_int_int, ?_⟩
  | with_reducible refine ⟨_, isi_int_bool, ?_⟩
  | with_reducible refine ⟨_, isi_int_str, ?_⟩
  | with_reducible refine ⟨_, isi_int_tuple, ?_⟩
  | with_reducible refine ⟨_, isi_tuple_int, ?_⟩
  | with_reducible refine ⟨_, isi_tuple_bool, ?_⟩
  | with_reducible refine ⟨_, isi_tuple_str, ?_⟩
  | with_reducible refine ⟨_, isi_tuple_tuple, ?_⟩
  | with_reducible refine ⟨_, isi_str_int, ?_⟩
  | with_reducible refine ⟨_, isi_str_bool, ?_⟩
  | with_reducible refine ⟨_, isi_str_str, ?_⟩
  | with_reducible refine ⟨_, isi_str_tuple, ?_⟩
  | with_reducible refine ⟨_, isi_bool_int, ?_⟩
  | with_reducible refine ⟨_, isi_bool_bool, ?_⟩
  | with_reducible refine ⟨_, isi_bool_str, ?_⟩
  | with_reducible refine ⟨_, isi_bool_tuple, ?_⟩
  | with_reducible refine ⟨_, isi_none_int, ?_⟩
  | with_reducible refine ⟨_, isi_none_bool, ?_⟩
  | with_reducible refine ⟨_, isi_none_str, ?_⟩
  | with_reducible refine ⟨_, isi_none_tuple, ?_⟩
  | with_reducible refine ⟨_, isi_list_int, ?_⟩
  | with_reducible refine ⟨_, isi_list_bool, ?_⟩
  | with_reducible refine ⟨_, isi_list_str, ?_⟩
  | with_reducible refine ⟨_, isi_list_tuple, ?_⟩
  | with_reducible refine ⟨true, rfl, fun _ => ?_, fun h => absurd h (by decide)⟩
  | with_reducible refine ⟨false, rfl, fun h => absurd h (by decide), fun _ => ?_⟩
  | with_reducible refine ⟨_, rfl, fun hb => ?_, fun hb => ?_⟩
  | with_reducible refine ⟨_, rfl, ?_⟩
  | with_reducible refine ⟨fun hb => ?_, fun hb => ?_⟩
  | with_reducible exact ⟨rfl, rfl⟩
  | with_reducible refine ⟨(rfl : isLst _ = true), ?_⟩)
theorem getD_some {hs : List Int} {p : Nat} (h : p < hs.length) : hs[p]? = some (hs.getD p 0) := by
  rw [List.getD_eq_getElem?_getD, List.getElem?_eq_getElem h]
  rfl
/-- the places that bar -/
theorem bar_loop {hs : List Int} {a b : Nat} {x y : Int} {o1 o2 : D} (hb : b < hs.length) (hl : hs.length ≤ 200) (h : a < b) (cp : Cup) (z : Option D) (PO : Out → Cup → Prop)
    (k1 : ∀ z, PO (.nx [some (C hs), some o1, some o2, some (.int a), some (.int x), some (.int b), some (.int y), some (.list (((mids a b).filter (barAt hs a b x y)).map fun p : Nat => .int p)), z]) cp) :
    Wp (forGo (gNm 8) (sIf (eB (eBin dGe (eBin dMul (eBin dIx (eNm 0) (eNm 8)) (eBin dSub (eNm 5) (eNm 3))) (eBin dAdd (eBin dMul (eNm 4) (eBin dSub (eNm 5) (eNm 8))) (eBin dMul (eNm 6) (eBin dSub (eNm 8) (eNm 3)))))) (sApp 7 (eNm 8)) sNil)
      ((mids a b).map fun p : Nat => .int p) [some (C hs), some o1, some o2, some (.int a), some (.int x), some (.int b), some (.int y), some (.list []), z] cp) PO := by
  refine forGo_inv (I := fun dn r env c => c = cp ∧ ∃ ps z, dn = ps.map (fun p : Nat => PyData.int p) ∧ env = [some (C hs), some o1, some o2, some (.int a), some (.int x), some (.int b), some (.int y), some (.list ((ps.filter (barAt hs a b x y)).map fun p : Nat => .int p)), z]) (ds0 := (mids a b).map fun p : Nat => .int p) ?_ ?_ _ [] _ _ rfl ⟨rfl, [], z, rfl, rfl⟩
  · rintro dn d r env c e ⟨rfl, ps, z, rfl, rfl⟩
    obtain ⟨l1, l2, e1, e2, e3⟩ := List.map_eq_append_iff.mp e
    obtain ⟨p, l3, rfl, rfl, e4⟩ := List.map_eq_cons_iff.mp e3
    have hp : a < p ∧ p < b := mem_mids.mp (by rw [e1]; simp)
    have hv : hs[p]? = some (hs.getD p 0) := getD_some (by omega)
    have hlen : ps.length ≤ 200 := by
      have h1 : ps.length = l1.length := by
        have := congrArg List.length e2
        simpa using this.symm
      have h2 : l1.length ≤ (mids a b).length := by rw [e1, List.length_append]; omega
      unfold mids at h2
      rw [List.length_map, List.length_range] at h2
      omega
    refine ⟨_, rfl, ?_⟩
    repeat walk_at "w"
    refine ⟨_, atI_ints hv, ?_⟩
    repeat walk_at "w"
    refine ⟨_, dMulr (by omega) (by omega), ?_⟩
    repeat walk_at "w"
    refine ⟨_, dMulr (by omega) (by omega), ?_⟩
    repeat walk_at "w"
    refine ⟨_, dMulr (by omega) (by omega), ?_⟩
    repeat walk_at "w"
    · rename_i hb2
      have hb3 : barAt hs a b x y p = true := hb2
      refine ⟨?_, rfl, ps ++ [p], some (.int p), by rw [List.map_append]; rfl, ?_⟩
      · rw [List.length_map]
        have := List.length_filter_le (barAt hs a b x y) ps
        omega
      · rw [List.filter_append, List.filter_cons_of_pos hb3, List.map_append]
        rfl
    · rename_i hb2
      have hb3 : barAt hs a b x y p = false := hb2
      refine ⟨rfl, ps ++ [p], some (.int p), by rw [List.map_append]; rfl, ?_⟩
      rw [List.filter_append, List.filter_cons_of_neg (by rw [hb3]; decide), List.filter_nil, List.append_nil]
      rfl
  · rintro env c ⟨rfl, ps, z, e, rfl⟩
    have : ps = mids a b := by
      have inj : ∀ {l l2 : List Nat}, l.map (fun p : Nat => PyData.int p) = l2.map (fun p : Nat => PyData.int p) → l = l2 := by
        intro l
        induction l with
        | nil => intro l2 h; cases l2 with
          | nil => rfl
          | cons => cases h
        | cons a l ih => intro l2 h; cases l2 with
          | nil => cases h
          | cons b l2 =>
            injection h with h1 h2
            have : (a : Int) = b := PyData.int.inj h1
            rw [ih h2, show a = b by omega]
      exact (inj e).symm
    subst this
    exact k1 z
theorem barring_in_lt {hs : List Int} {a b : Nat} {x y : Int} (hb : b < hs.length) (hl : hs.length ≤ 200) (h : a < b) (cp : Cup) : m_barring_in [C hs, T2 a x, T2 b y] cp = .ok (.list (((mids a b).filter (barAt hs a b x y)).map fun p : Nat => .int p)) cp := by
  refine wp_of ?_
  unfold m_barring_in
  repeat walk_at "w"
  rw [PySem.W.dataLt_ii, if_neg (by simp only [decide_eq_true_eq]; omega), PySem.W.dataLt_ii, if_pos (by simp only [decide_eq_true_eq]; omega)]
  refine ⟨_, rfl, ?_⟩
  repeat walk_at "w"
  refine ⟨_, _, rfl, rfl, okR_of (by omega) (by omega), okR_of (by omega) (by omega), okLen_of (by omega), ?_⟩
  rw [range_mids h]
  refine bar_loop hb hl h _ _ _ (fun z => ?_)
  repeat walk_at "w"
theorem barring_in_gt {hs : List Int} {a b : Nat} {x y : Int} (hb : b < hs.length) (hl : hs.length ≤ 200) (h : a < b) (cp : Cup) : m_barring_in [C hs, T2 b y, T2 a x] cp = .ok (.list (((mids a b).filter (barAt hs a b x y)).map fun p : Nat => .int p)) cp := by
  refine wp_of ?_
  unfold m_barring_in
  repeat walk_at "w"
  rw [PySem.W.dataLt_ii, if_pos (by simp only [decide_eq_true_eq]; omega), PySem.W.dataLt_ii, if_neg (by simp only [decide_eq_true_eq]; omega)]
  refine ⟨_, rfl, ?_⟩
  repeat walk_at "w"
  refine ⟨_, _, rfl, rfl, okR_of (by omega) (by omega), okR_of (by omega) (by omega), okLen_of (by omega), ?_⟩
  rw [range_mids h]
  refine bar_loop hb hl h _ _ _ (fun z => ?_)
  repeat walk_at "w"
theorem barring_in_same {hs : List Int} {a : Nat} {x : Int} (hb : a < 1000) (cp : Cup) : m_barring_in [C hs, T2 a x, T2 a x] cp = .ok (.list []) cp := by
  refine wp_of ?_
  unfold m_barring_in
  repeat walk_at "w"
  rw [ite_self]
  refine ⟨_, rfl, ?_⟩
  repeat walk_at "w"
  refine ⟨_, _, rfl, rfl, okR_of (by omega) (by omega), okR_of (by omega) (by omega), okLen_of (by omega), ?_⟩
  rw [show ((a : Int) - (a + 1)).toNat = 0 by omega]
  refine Wp.ok_nx ?_
  repeat walk_at "w"
/-- the least top over a place -/
def stepTop (hs : List Int) (s : Nat) (high far : Int) (l : Int) (b : Nat) : Int := max l (high + (hs.getD b 0 - high) * far / (((b : Int) - s).natAbs : Int) + 1)
theorem abs_i (i : Int) : (if i < 0 then -i else i) = (i.natAbs : Int) := by
  split <;> omega
theorem top_loop {hs : List Int} {s pl lo hi : Nat} {high far l0 : Int} {o1 : D} (hfar : 0 ≤ far ∧ far ≤ 200) (hs1 : hs.length ≤ 200) (hhi : hi ≤ hs.length) (hsb : s ≤ 200) (hlo : s ≤ lo ∨ hi ≤ s) (hfe : far = (((pl : Int) - s).natAbs : Int)) (cp : Cup) (z6 z7 z8 : Option D) (PO : Out → Cup → Prop)
    (k1 : ∀ z6 z7 z8, PO (.nx [some (C hs), some o1, some (.int pl), some (.int s), some (.int high), some (.int ((mids lo hi).foldl (stepTop hs s high far) l0)), z6, z7, z8]) cp) :
    Wp (forGo (gNm 6) (sSeq (sPar [7, 8] (eCons (eCa bAbs (eCons (eBin dSub (eNm 2) (eNm 3)) eNil)) (eCons (eCa bAbs (eCons (eBin dSub (eNm 6) (eNm 3)) eNil)) eNil)))
      (sSet 5 (eCa bMax2 (eCons (eNm 5) (eCons (eBin dAdd (eBin dAdd (eNm 4) (eBin dDiv (eBin dMul (eBin dSub (eBin dIx (eNm 0) (eNm 6)) (eNm 4)) (eNm 7)) (eNm 8))) (eC (.int 1))) eNil)))))
      ((mids lo hi).map fun p : Nat => .int p) [some (C hs), some o1, some (.int pl), some (.int s), some (.int high), some (.int l0), z6, z7, z8] cp) PO := by
  refine forGo_inv (I := fun dn r env c => c = cp ∧ ∃ ps ps2 z6 z7 z8, mids lo hi = ps ++ ps2 ∧ dn = ps.map (fun p : Nat => PyData.int p) ∧ r = ps2.map (fun p : Nat => PyData.int p) ∧ env = [some (C hs), some o1, some (.int pl), some (.int s), some (.int high), some (.int (ps.foldl (stepTop hs s high far) l0)), z6, z7, z8]) (ds0 := (mids lo hi).map fun p : Nat => .int p) ?_ ?_ _ [] _ _ rfl ⟨rfl, [], mids lo hi, z6, z7, z8, rfl, rfl, rfl, rfl⟩
  · rintro dn d r env c e ⟨rfl, ps, ps2, z6, z7, z8, e0, rfl, er, rfl⟩
    cases ps2 with
    | nil => cases er
    | cons p ps2 =>
    injection er with er1 er2
    subst er1
    have hp : lo < p ∧ p < hi := mem_mids.mp (by rw [e0]; simp)
    have hv : hs[p]? = some (hs.getD p 0) := getD_some (by omega)
    refine ⟨_, rfl, ?_⟩
    repeat walk_at "w"
    rw [abs_i, abs_i, ← hfe]
    refine ⟨_, atI_ints hv, ?_⟩
    repeat walk_at "w"
    refine ⟨_, dMulr (by omega) (by omega), ?_⟩
    repeat walk_at "w"
    refine ⟨_, dDiv_ii (by omega) (by omega), ?_⟩
    repeat walk_at "w"
    refine ⟨rfl, ps ++ [p], ps2, some (.int p), some (.int far), some (.int (((p : Int) - s).natAbs : Int)), by rw [e0, List.append_assoc]; rfl, by rw [List.map_append]; rfl, er2, ?_⟩
    rw [List.foldl_append]
    rfl
  · rintro env c ⟨rfl, ps, ps2, z6, z7, z8, e0, _, er, rfl⟩
    cases ps2 with
    | nil =>
      rw [List.append_nil] at e0
      subst e0
      exact k1 _ _ _
    | cons => cases er
theorem least_top_ok {hs : List Int} {s pl : Nat} {high : Int} (hs1 : hs.length ≤ 200) (h1 : s < hs.length) (h2 : pl < hs.length) (cp : Cup) :
    m_least_top [C hs, T2 s high, .int pl] cp = .ok (.int ((mids (min s pl) (max s pl)).foldl (stepTop hs s high (((pl : Int) - s).natAbs : Int)) (hs.getD pl 0))) cp := by
  have em : (min (s : Int) (pl : Int)) = ((min s pl : Nat) : Int) := by omega
  have eM : (max (s : Int) (pl : Int)) = ((max s pl : Nat) : Int) := by omega
  refine wp_of ?_
  unfold m_least_top
  repeat walk_at "w"
  refine ⟨_, atI_ints (getD_some h2), ?_⟩
  repeat walk_at "w"
  rw [em, eM]
  refine ⟨_, _, rfl, rfl, okR_of (by omega) (by omega), okR_of (by omega) (by omega), okLen_of (by omega), ?_⟩
  by_cases hlt : min s pl < max s pl
  · rw [range_mids hlt]
    refine top_loop (hfar := by omega) (hs1 := hs1) (hhi := by omega) (hsb := by omega) (hlo := by omega) (hfe := rfl) _ _ _ _ _ (fun z6 z7 z8 => ?_)
    repeat walk_at "w"
  · have e0 : mids (min s pl) (max s pl) = [] := by
      unfold mids
      rw [show max s pl - min s pl - 1 = 0 by omega]
      rfl
    rw [e0, show (((max s pl : Nat) : Int) - (((min s pl : Nat) : Int) + 1)).toNat = 0 by omega]
    refine Wp.ok_nx ?_
    repeat walk_at "w"
theorem barring_places_ok {hs : List Int} {ts : List Tw} {x y : Str} {p q : Nat} {m n v w : Int} {bs : List Nat} (h : COk hs) (k : TOk hs.length ts) (h1 : (x, ((p : Nat) : Int), m) ∈ ts) (h2 : (y, ((q : Nat) : Int), n) ∈ ts) (hv : hs[p]? = some v) (hw : hs[q]? = some w) (cp : Cup)
    (hb : ∀ cp, m_barring_in [C hs, T2 p (v + m), T2 q (w + n)] cp = .ok (.list (bs.map fun p : Nat => .int p)) cp) : m_barring_places [C hs, TT ts, .str x, .str y] cp = .ok (.tuple (bs.map fun p : Nat => .int p)) cp := by
  refine wp_of ?_
  unfold m_barring_places
  repeat walk_at "w"
  refine w_eq (need_towers_ok h k _) ?_
  repeat walk_at "w"
  refine w_eq (tower_in_ok k h1 _) ?_
  repeat walk_at "w"
  refine w_eq (tower_in_ok k h2 _) ?_
  repeat walk_at "w"
  refine w_eq (top_in_ok hv _) ?_
  repeat walk_at "w"
  refine w_eq (top_in_ok hw _) ?_
  repeat walk_at "w"
  refine w_eq (hb _) ?_
  repeat walk_at "w"
theorem least_mast_ok {hs : List Int} {ts : List Tw} {x : Str} {p pl : Nat} {m v w r : Int} (h : COk hs) (k : TOk hs.length ts) (h1 : (x, ((p : Nat) : Int), m) ∈ ts) (hv : hs[p]? = some v) (hw : hs[pl]? = some w) (cp : Cup)
    (hb : ∀ cp, m_least_top [C hs, T2 p (v + m), .int pl] cp = .ok (.int r) cp) : m_least_mast [C hs, TT ts, .str x, .int pl] cp = .ok (.int (r - w)) cp := by
  have hl : pl < hs.length := (List.getElem?_eq_some_iff.mp hw).1
  refine wp_of ?_
  unfold m_least_mast
  repeat walk_at "w"
  refine w_eq (need_towers_ok h k _) ?_
  repeat walk_at "w"
  refine w_eq (tower_in_ok k h1 _) ?_
  repeat walk_at "w"
  refine w_eq (need_place_ok (by omega) (by omega) _) ?_
  repeat walk_at "w"
  refine w_eq (top_in_ok hv _) ?_
  repeat walk_at "w"
  refine w_eq (hb _) ?_
  repeat walk_at "w"
  refine ⟨_, atI_ints hw, ?_⟩
  repeat walk_at "w"
/-- whether the tops over a and b see each other -/
def seeB (hs : List Int) (a b : Nat) (x y : Int) : Bool := if a < b then (mids a b).all fun p => !barAt hs a b x y p else (mids b a).all fun p => !barAt hs b a y x p
theorem is_open_ne {hs : List Int} {a b : Nat} {x y : Int} (ha : a < hs.length) (hb : b < hs.length) (hl : hs.length ≤ 200) (h : a ≠ b) (cp : Cup) : m_is_open [C hs, T2 a x, T2 b y] cp = .ok (.bool (seeB hs a b x y)) cp := by
  unfold seeB
  by_cases hab : a < b
  · rw [if_pos hab, is_open_lt hb hl hab]
  · rw [if_neg hab, is_open_gt ha hl (by omega)]
def seenF (hs : List Int) (p : Nat) (x : Int) : D → Bool
  | .int i => decide (i.toNat ≠ p) && seeB hs p i.toNat x (hs.getD i.toNat 0)
  | _ => false
theorem seen_places_ok {hs : List Int} {p : Nat} {m v : Int} (h : COk hs) (hv : hs[p]? = some v) (hm : 0 ≤ m) (km : m ≤ 10000) (cp : Cup) :
    m_seen_places [C hs, .int p, .int m] cp = .ok (.tuple (((List.range hs.length).filter fun q => decide (q ≠ p) && seeB hs p q (v + m) (hs.getD q 0)).map fun q : Nat => .int q)) cp := by
  have hl : p < hs.length := (List.getElem?_eq_some_iff.mp hv).1
  have hlen := h.2.1
  refine wp_of ?_
  unfold m_seen_places
  repeat walk_at "w"
  refine w_eq (need_country_ok h _) ?_
  repeat walk_at "w"
  refine w_eq (need_place_ok (by omega) (by omega) _) ?_
  repeat walk_at "w"
  refine w_eq (need_mast_ok hm km _) ?_
  repeat walk_at "w"
  refine ⟨_, atI_ints hv, ?_⟩
  repeat walk_at "w"
  refine ⟨okR_of (by rw [List.length_map]; omega) (by rw [List.length_map]; omega), okLen_of (by rw [List.length_map]; omega), ?_⟩
  have e1 : rangeL 0 (((hs.map PyData.int).length : Int)).toNat = (List.range hs.length).map fun q : Nat => PyData.int q := by
    unfold rangeL
    rw [List.length_map, Int.toNat_natCast]
    refine List.map_congr_left fun i _ => ?_
    show PyData.int _ = PyData.int _
    rw [Int.zero_add]
  rw [e1]
  refine w_eq (lcGo_pure (tt := seenF hs p (v + m)) (ee := id) fun d hd => ?_) ?_
  · obtain ⟨q, hq, rfl⟩ := List.mem_map.mp hd
    have hq := List.mem_range.mp hq
    refine ⟨_, rfl, fun cp => ⟨wp_of ?_, fun _ => wp_of ?_⟩⟩
    · repeat walk_at "w"
      · rename_i hb
        have hne : q ≠ p := by
          intro e
          subst e
          simp at hb
        refine ⟨_, atI_ints (getD_some hq), ?_⟩
        repeat walk_at "w"
        refine w_eq (is_open_ne hl hq hlen (Ne.symm hne) _) ?_
        repeat walk_at "w"
        refine ⟨?_, rfl⟩
        show PyData.bool _ = PyData.bool (decide (q ≠ p) && seeB hs p q (v + m) (hs.getD q 0))
        rw [decide_eq_true hne, Bool.true_and]
      · rename_i hb
        have hne : q = p := by
          by_cases e : q = p
          · exact e
          · exfalso
            have : decide ((q : Int) = p) = false := decide_eq_false (by omega)
            rw [this] at hb
            cases hb
        refine ⟨?_, rfl⟩
        show PyData.bool false = PyData.bool (decide (q ≠ p) && seeB hs p q (v + m) (hs.getD q 0))
        rw [decide_eq_false (by simpa using hne), Bool.false_and]
    · repeat walk_at "w"
  · have e2 : ((((List.range hs.length).map fun q : Nat => PyData.int q).filter (seenF hs p (v + m))).map id) = ((List.range hs.length).filter fun q => decide (q ≠ p) && seeB hs p q (v + m) (hs.getD q 0)).map fun q : Nat => .int q := by
      rw [List.map_id, List.filter_map]
      rfl
    rw [e2]
    repeat walk_at "w"
end MP.SI
namespace MP.SI
open PySem MP
local macro_rules | `(tactic| walk_at "w") => `(tactic| first
  | with_reducible refine w_seq ?_
  | with_reducible refine w_set ?_
  | with_reducible refine w_ret ?_
  | with_reducible refine w_cons ?_
  | with_reducible refine w_nil ?_
  | with_reducible refine w_c ?_
  | ((with_reducible refine' w_nm ?hnm ?_); (case hnm => exact rfl))
  | with_reducible refine w_bin ?_
  | with_reducible refine w_b ?_
  | with_reducible refine w_not ?_
  | with_reducible refine w_and ?_
  | with_reducible refine w_or ?_
  | with_reducible refine w_if ?_
  | with_reducible refine w_sif ?_
  | with_reducible refine w_chn ?_
  | with_reducible refine w_call ?_
  | with_reducible refine w_ca ?_
  | with_reducible refine w_tup ?_
  | with_reducible refine w_lst ?_
  | with_reducible refine w_isi ?_
  | with_reducible refine w_drop ?_
  | with_reducible refine w_snil ?_
  | with_reducible refine w_par ?_
  | with_reducible refine w_asg ?_
  | with_reducible refine w_for ?_
  | with_reducible refine w_lc ?_
  | with_reducible refine w_it ?_
  | with_reducible refine w_zip ?_
  | with_reducible refine w_enum ?_
  | with_reducible refine w_sl2 ?_
  | with_reducible refine w_eoN ?_
  | with_reducible refine w_eoS ?_
  | with_reducible refine w_me ?_
  | with_reducible refine w_rev ?_
  | ((with_reducible refine' w_app ?hap ?_); (case hap => exact rfl))
  | ((with_reducible refine' w_augI ?hap ?_); (case hap => exact rfl))
  | with_reducible refine w_rg1 ?_
  | with_reducible refine w_rg2 ?_
  | with_reducible refine w_scup ?_
  | with_reducible refine w_cup ?_
  | with_reducible refine w_neg ?_
  | with_reducible refine w_mean ?_
  | with_reducible refine ⟨_, dLt_ii, ?_⟩
  | with_reducible refine ⟨_, dGt_ii, ?_⟩
  | with_reducible refine ⟨_, dLe_ii, ?_⟩
  | with_reducible refine ⟨_, dGe_ii, ?_⟩
  | with_reducible refine ⟨_, dEq_ii, ?_⟩
  | with_reducible refine ⟨_, dNe_ii, ?_⟩
  | with_reducible refine ⟨_, dLe_ii, fun _ => ?_, fun _ => ?_⟩
  | with_reducible refine ⟨_, dLt_ii, fun _ => ?_, fun _ => ?_⟩
  | with_reducible refine ⟨_, dAdd_ii, ?_⟩
  | with_reducible refine ⟨_, dSub_ii, ?_⟩
  | with_reducible refine ⟨_, isi_int_int, ?_⟩
  | with_reducible refine ⟨_, isi_int_bool, ?_⟩
  | with_reducible refine ⟨_, isi_int_str, ?_⟩
  | with_reducible refine ⟨_, isi_int_tuple, ?_⟩
  | with_reducible refine ⟨_, isi_tuple_int, ?_⟩
  | with_reducible refine ⟨_, isi_tuple_bool, ?_⟩
  | with_reducible refine ⟨_, isi_tuple_str, ?_⟩
  | with_reducible refine ⟨_, isi_tuple_tuple, ?_⟩
  | with_reducible refine ⟨_, isi_str_int, ?_⟩
  | with_reducible refine ⟨_, isi_str_bool, ?_⟩
  | with_reducible refine ⟨_, isi_str_str, ?_⟩
  | with_reducible refine ⟨_, isi_str_tuple, ?_⟩
  | with_reducible refine ⟨_, isi_bool_int, ?_⟩
  | with_reducible refine ⟨_, isi_bool_bool, ?_⟩
  | with_reducible refine ⟨_, isi_bool_str, ?_⟩
  | with_reducible refine ⟨_, isi_bool_tuple, ?_⟩
  | with_reducible refine ⟨_, isi_none_int, ?_⟩
  | with_reducible refine ⟨_, isi_none_bool, ?_⟩
  | with_reducible refine ⟨_, isi_none_str, ?_⟩
  | with_reducible refine ⟨_, isi_none_tuple, ?_⟩
  | with_reducible refine ⟨_, isi_list_int, ?_⟩
  | with_reducible refine ⟨_, isi_list_bool, ?_⟩
  | with_reducible refine ⟨_, isi_list_str, ?_⟩
  | with_reducible refine ⟨_, isi_list_tuple, ?_⟩
  | with_reducible refine ⟨true, rfl, fun _ => ?_, fun h => absurd h (by decide)⟩
  | with_reducible refine ⟨false, rfl, fun h => absurd h (by decide), fun _ => ?_⟩
  | with_reducible refine ⟨_, rfl, fun hb => ?_, fun hb => ?_⟩
  | with_reducible refine ⟨_, rfl, ?_⟩
  | with_reducible refine ⟨fun hb => ?_, fun hb => ?_⟩
  | with_reducible exact ⟨rfl, rfl⟩
  | with_reducible refine ⟨(rfl : isLst _ = true), ?_⟩)
/-! like itself -/
def gd : Nat → D → Prop
  | 0, _ => False
  | n + 1, .tuple ds => ds.length ≤ 16777216 ∧ ∀ d ∈ ds, gd n d
  | _ + 1, .int _ => True
  | _ + 1, .bool _ => True
  | _ + 1, .none => True
  | _ + 1, .str x => PyData.strOk x = true
  | _ + 1, _ => False
theorem same_ok : ∀ (n : Nat) (d : D) (cp : Cup), gd n d → m_law_same n [d, d] cp = .ok (.bool true) cp
  | 0, _, _, h => h.elim
  | n + 1, .tuple ds, cp, h => by
    obtain ⟨h1, h2⟩ := h
    refine wp_of ?_
    unfold m_law_same
    repeat walk_at "w"
    · rename_i hb
      simp at hb
    · repeat walk_at "w"
      refine ⟨okR_of (by omega) (by omega), okLen_of (by omega), ?_⟩
      refine w_eq (lcGo_pure (tt := fun _ => true) (ee := fun _ => .bool true) fun d hd => ?_) ?_
      · unfold rangeL at hd
        obtain ⟨i, hi, rfl⟩ := List.mem_map.mp hd
        have hi : i < ds.length := by simpa using hi
        have e : dIx (.tuple ds) (.int (0 + (i : Int))) = some ds[i] := by
          rw [Int.zero_add]
          exact L2.atI_nat (List.getElem?_eq_getElem hi)
        refine ⟨_, rfl, fun cp => ⟨rfl, fun _ => wp_of ?_⟩⟩
        repeat walk_at "w"
        refine ⟨_, e, ?_⟩
        repeat walk_at "w"
        refine ⟨_, e, ?_⟩
        repeat walk_at "w"
        exact w_eq (same_ok n _ _ (h2 _ (List.getElem_mem hi))) ⟨rfl, rfl⟩
      · repeat walk_at "w"
        exact ⟨_, bAll_true _, rfl, rfl⟩
  | n + 1, .int i, cp, h => by
    refine wp_of ?_
    unfold m_law_same
    repeat walk_at "w"
    exact ⟨by rw [decide_eq_true rfl], rfl⟩
  | n + 1, .bool b, cp, h => by
    cases b
    · refine wp_of ?_
      unfold m_law_same
      repeat walk_at "w"
    · refine wp_of ?_
      unfold m_law_same
      repeat walk_at "w"
  | n + 1, .none, cp, h => by
    refine wp_of ?_
    unfold m_law_same
    repeat walk_at "w"
  | n + 1, .str x, cp, h => by
    refine wp_of ?_
    unfold m_law_same
    repeat walk_at "w"
    refine ⟨_, dEq_ss h h, ?_⟩
    exact ⟨by rw [decide_eq_true rfl], rfl⟩
  | n + 1, .list _, cp, h => h.elim
  | n + 1, .dict _, cp, h => h.elim
/-! a roll -/
theorem roll_gen {m a q b q2 dv : Int} {M : Mean} (hM : M = mean true 4
  (sSeq (sIf (eB (eBin dGt (eCup false) (eC (.int 0))))
    (sSeq (sSet 2 (eBin dMod (eCa bInt (eCons (eCup false) eNil)) (eNm 1)))
    (sSeq (sCup false (eBin dDiv (eCup false) (eNm 1)))
    (sRet (eNm 2))))
    sNil)
  (sSeq (sCup true (eBin dMod (eCa bInt (eCons (eBin dAdd (eBin dMul (eCup true) (eC (.int m))) (eC (.int a))) eNil)) (eC (.int q))))
  (sSeq (sSet 3 (eBin dMod (eCa bInt (eCons (eBin dMul (eCup true) (eBin dAdd (eCup true) (eC (.int b)))) eNil)) (eC (.int q2))))
  (sRet (eBin dMod (eCa bInt (eCons (eBin dDiv (eNm 3) (eC (.int dv))) eNil)) (eNm 1)))))))
    (hm : -18446744073709551616 < m ∧ m < 18446744073709551616) (hq : 0 < q ∧ q < 18446744073709551616) (hq2 : 0 < q2) (hd : 0 < dv ∧ dv < 1073741824) {many : Int} (h1 : 0 < many) (h2 : many < 1073741824) (cp : Cup) :
    Wp (M [.int many] cp) fun d _ => ∃ r, d = .int r ∧ 0 ≤ r ∧ r < many := by
  subst hM
  repeat walk_at "w"
  · refine ⟨_, dMod_ii h1, ?_⟩
    repeat walk_at "w"
    refine ⟨_, dDiv_ii h1 h2, ?_⟩
    repeat walk_at "w"
    exact ⟨Int.emod_nonneg _ (by omega), Int.emod_lt_of_pos _ h1⟩
  · repeat walk_at "w"
    refine ⟨_, dMulr hm.1 hm.2, ?_⟩
    repeat walk_at "w"
    refine ⟨_, dMod_ii hq.1, ?_⟩
    repeat walk_at "w"
    have e1 := Int.emod_nonneg (cp.2 * m + a) (show q ≠ 0 by omega)
    have e2 := Int.emod_lt_of_pos (cp.2 * m + a) hq.1
    refine ⟨_, dMul_ii ?_, ?_⟩
    · unfold okMul
      have h3 : -18446744073709551616 < (cp.2 * m + a) % q := by omega
      have h4 : (cp.2 * m + a) % q < 18446744073709551616 := by omega
      simp [h3, h4]
    repeat walk_at "w"
    refine ⟨_, dMod_ii hq2, ?_⟩
    repeat walk_at "w"
    refine ⟨_, dDiv_ii hd.1 hd.2, ?_⟩
    repeat walk_at "w"
    refine ⟨_, dMod_ii h1, ?_⟩
    exact ⟨_, rfl, Int.emod_nonneg _ (by omega), Int.emod_lt_of_pos _ h1⟩
/-! the pairs of towers that see each other -/
def openTw (hs : List Int) (t u : Tw) : Bool := seeB hs t.2.1.toNat u.2.1.toNat (hs.getD t.2.1.toNat 0 + t.2.2) (hs.getD u.2.1.toNat 0 + u.2.2)
abbrev pairD (t u : Tw) : D := .tuple [.str t.1, .str u.1]
theorem top_tw {hs : List Int} {t : Tw} (h0 : 0 ≤ t.2.1) (h1 : t.2.1 < hs.length) (cp : Cup) : m_top_in [C hs, tw t] cp = .ok (T2 t.2.1.toNat (hs.getD t.2.1.toNat 0 + t.2.2)) cp := by
  obtain ⟨x, p, m⟩ := t
  obtain ⟨n, rfl⟩ : ∃ n : Nat, p = n := ⟨p.toNat, by have h0 : 0 ≤ p := h0; omega⟩
  have h1 : n < hs.length := by have h1 : (n : Int) < hs.length := h1; omega
  exact top_in_ok (getD_some h1) cp
theorem pair_loop {hs : List Int} {TS : D} {t : Tw} {i : Nat} {us : List Tw} {acc : List D} (hl : hs.length ≤ 200) (ht : 0 ≤ t.2.1 ∧ t.2.1 < hs.length) (hu : ∀ u ∈ us, 0 ≤ u.2.1 ∧ u.2.1 < hs.length ∧ u.2.1 ≠ t.2.1) (ha : acc.length + us.length ≤ 10000) (cp : Cup) (z : Option D) (PO : Out → Cup → Prop)
    (k1 : ∀ z, PO (.nx [some (C hs), some TS, some (.list (acc ++ (us.filter (openTw hs t)).map (pairD t))), some (.int i), some (tw t), z]) cp) :
    Wp (forGo (gNm 5) (sIf (eB (eCall m_is_open (eCons (eNm 0) (eCons (eCall m_top_in (eCons (eNm 0) (eCons (eNm 4) eNil))) (eCons (eCall m_top_in (eCons (eNm 0) (eCons (eNm 5) eNil))) eNil)))))
        (sApp 2 (eTup (eCons (eBin dIx (eNm 4) (eC (.int 0))) (eCons (eBin dIx (eNm 5) (eC (.int 0))) eNil)))) sNil)
      (us.map tw) [some (C hs), some TS, some (.list acc), some (.int i), some (tw t), z] cp) PO := by
  refine forGo_inv (I := fun dn r env c => c = cp ∧ ∃ ps ps2 z, us = ps ++ ps2 ∧ r = ps2.map tw ∧ env = [some (C hs), some TS, some (.list (acc ++ (ps.filter (openTw hs t)).map (pairD t))), some (.int i), some (tw t), z]) (ds0 := us.map tw) ?_ ?_ _ [] _ _ rfl ⟨rfl, [], us, z, rfl, rfl, by rw [List.filter_nil, List.map_nil, List.append_nil]⟩
  · rintro dn d r env c e ⟨rfl, ps, ps2, z, e0, er, rfl⟩
    cases ps2 with
    | nil => cases er
    | cons u ps2 =>
    injection er with er1 er2
    subst er1
    obtain ⟨u1, u2, u3⟩ := hu u (by rw [e0]; simp)
    have hlen : ps.length + 1 ≤ us.length := by rw [e0, List.length_append, List.length_cons]; omega
    have hf := List.length_filter_le (openTw hs t) ps
    refine ⟨_, rfl, ?_⟩
    repeat walk_at "w"
    refine w_eq (top_tw ht.1 ht.2 _) ?_
    repeat walk_at "w"
    refine w_eq (top_tw u1 u2 _) ?_
    repeat walk_at "w"
    refine w_eq (is_open_ne (by omega) (by omega) hl (by omega) _) ?_
    repeat walk_at "w"
    · rename_i hb
      have hb : openTw hs t u = true := hb
      refine ⟨by rw [List.length_append, List.length_map]; omega, rfl, ps ++ [u], ps2, some (tw u), by rw [e0, List.append_assoc]; rfl, er2, ?_⟩
      rw [List.filter_append, List.filter_cons_of_pos hb, List.map_append, ← List.append_assoc]
      rfl
    · rename_i hb
      have hb : openTw hs t u = false := hb
      refine ⟨rfl, ps ++ [u], ps2, some (tw u), by rw [e0, List.append_assoc]; rfl, er2, ?_⟩
      rw [List.filter_append, List.filter_cons_of_neg (by rw [hb]; decide), List.filter_nil, List.append_nil]
      rfl
  · rintro env c ⟨rfl, ps, ps2, z, e0, er, rfl⟩
    cases ps2 with
    | nil =>
      rw [List.append_nil] at e0
      subst e0
      exact k1 z
    | cons => cases er
/-- the pairs of the first k towers with later ones -/
def pairsK (f : Tw → Tw → Bool) (g : Tw → Tw → D) (ts : List Tw) : Nat → List D
  | 0 => []
  | k + 1 => pairsK f g ts k ++ (match ts[k]? with | some t => ((ts.drop (k + 1)).filter (f t)).map (g t) | none => [])
theorem pairsK_len (f : Tw → Tw → Bool) (g : Tw → Tw → D) (ts : List Tw) : ∀ k, (pairsK f g ts k).length ≤ k * ts.length
  | 0 => Nat.zero_le _
  | k + 1 => by
    rw [pairsK, List.length_append, Nat.succ_mul]
    have h := pairsK_len f g ts k
    cases e : ts[k]? with
    | none => exact Nat.add_le_add h (Nat.zero_le _)
    | some t =>
      show _ + (((ts.drop (k + 1)).filter (f t)).map (g t)).length ≤ _
      rw [List.length_map]
      have h2 := List.length_filter_le (f t) (ts.drop (k + 1))
      rw [List.length_drop] at h2
      omega
theorem sight_pairs_ok {hs : List Int} {ts : List Tw} (hl : hs.length ≤ 200) (h : TOk hs.length ts) (cp : Cup) : m_sight_pairs [C hs, TT ts] cp = .ok (.list (pairsK (openTw hs) pairD ts ts.length)) cp := by
  obtain ⟨h1, h2, h3, h4⟩ := h
  refine wp_of ?_
  unfold m_sight_pairs
  repeat walk_at "w"
  refine forGo_inv (I := fun dn r env c => c = cp ∧ ∃ k z3 z4 z5, k ≤ ts.length ∧ dn = (enumL (ts.map tw)).take k ∧ r = (enumL (ts.map tw)).drop k ∧ env = [some (C hs), some (TT ts), some (.list (pairsK (openTw hs) pairD ts k)), z3, z4, z5]) (ds0 := enumL (ts.map tw)) ?_ ?_ _ [] _ _ rfl ⟨rfl, 0, none, none, none, Nat.zero_le _, rfl, rfl, rfl⟩
  · rintro dn d r env c e ⟨rfl, k, z3, z4, z5, hk, rfl, er, rfl⟩
    have hlt : k < ts.length := by
      refine Nat.lt_of_le_of_ne hk fun z => ?_
      have : (enumL (ts.map tw)).drop k = [] := List.drop_eq_nil_of_le (by rw [enumL_len, List.length_map]; omega)
      rw [this] at er
      cases er
    have hd : (enumL (ts.map tw))[k]? = some d := by
      have := congrArg (·[0]?) er
      simp only [List.getElem?_cons_zero, List.getElem?_drop, Nat.add_zero] at this
      exact this.symm
    obtain ⟨e1, he1, rfl⟩ := enumL_get hd
    rw [List.getElem?_map, List.getElem?_eq_getElem hlt] at he1
    obtain rfl := Option.some.inj he1
    refine ⟨_, rfl, ?_⟩
    repeat walk_at "w"
    have ec : cutL (ts.map tw) (some ((k : Int) + 1)) none = (ts.drop (k + 1)).map tw := by
      rw [show ((k : Int) + 1) = ((k + 1 : Nat) : Int) by omega, cut_drop, List.map_drop]
    rw [ec]
    have hm : ts[k] ∈ ts := List.getElem_mem hlt
    have hp := pairsK_len (openTw hs) pairD ts k
    refine pair_loop (t := ts[k]) (i := k) hl ⟨(h2 _ hm).2.1, (h2 _ hm).2.2.1⟩ (fun u hu => ?_) ?_ _ _ _ (fun z => ?_)
    · have hu2 := List.mem_of_mem_drop hu
      refine ⟨(h2 u hu2).2.1, (h2 u hu2).2.2.1, fun e => ?_⟩
      obtain ⟨j, hj, hju⟩ := List.getElem_of_mem hu
      rw [List.getElem_drop] at hju
      have hjl : k + 1 + j < ts.length := by rw [List.length_drop] at hj; omega
      have := (List.getElem_inj (h := h4) (xs := ts.map (·.2.1)) (i := k + 1 + j) (j := k) (h₀ := by rw [List.length_map]; exact hjl) (h₁ := by rw [List.length_map]; exact hlt)).mp (by rw [List.getElem_map, List.getElem_map, hju]; exact e)
      omega
    · rw [List.length_drop]
      have : k * ts.length ≤ 24 * 24 := Nat.mul_le_mul (by omega) h1
      omega
    · refine ⟨rfl, k + 1, some (.int k), some (tw ts[k]), z, hlt, ?_, ?_, ?_⟩
      · rw [List.take_add_one, hd]
        rfl
      · have := congrArg List.tail er
        rw [List.tail_cons, List.tail_drop] at this
        exact this
      · rw [pairsK, List.getElem?_eq_getElem hlt]
  · rintro env c ⟨rfl, k, z3, z4, z5, hk, e1, e2, rfl⟩
    have : k = ts.length := by
      have := congrArg List.length e2
      rw [List.length_drop, enumL_len, List.length_map] at this
      simp at this
      omega
    subst this
    repeat walk_at "w"
theorem sights_ok {hs : List Int} {ts : List Tw} (h : COk hs) (k : TOk hs.length ts) (cp : Cup) : m_sights [C hs, TT ts] cp = .ok (.tuple (pairsK (openTw hs) pairD ts ts.length)) cp := by
  refine wp_of ?_
  unfold m_sights
  repeat walk_at "w"
  refine w_eq (need_towers_ok h k _) ?_
  repeat walk_at "w"
  refine w_eq (sight_pairs_ok h.2.1 k _) ?_
  repeat walk_at "w"
end MP.SI
namespace MP.SI
open PySem MP
local macro_rules | `(tactic| walk_at "w") => `(tactic| first
  | with_reducible refine w_seq ?_
  | with_reducible refine w_set ?_
  | with_reducible refine w_ret ?_
  | with_reducible refine w_cons ?_
  | with_reducible refine w_nil ?_
  | with_reducible refine w_c ?_
  | ((with_reducible refine' w_nm ?hnm ?_); (case hnm => exact rfl))
  | with_reducible refine w_bin ?_
  | with_reducible refine w_b ?_
  | with_reducible refine w_not ?_
  | with_reducible refine w_and ?_
  | with_reducible refine w_or ?_
  | with_reducible refine w_if ?_
  | with_reducible refine w_sif ?_
  | with_reducible refine w_chn ?_
  | with_reducible refine w_call ?_
  | with_reducible refine w_ca ?_
  | with_reducible refine w_tup ?_
  | with_reducible refine w_lst ?_
  | with_reducible refine w_isi ?_
  | with_reducible refine w_drop ?_
  | with_reducible refine w_snil ?_
  | with_reducible refine w_par ?_
  | with_reducible refine w_asg ?_
  | with_reducible refine w_for ?_
  | with_reducible refine w_lc ?_
  | with_reducible refine w_it ?_
  | with_reducible refine w_zip ?_
  | with_reducible refine w_enum ?_
  | with_reducible refine w_sl2 ?_
  | with_reducible refine w_eoN ?_
  | with_reducible refine w_eoS ?_
  | with_reducible refine w_me ?_
  | with_reducible refine w_rev ?_
  | ((with_reducible refine' w_app ?hap ?_); (case hap => exact rfl))
  | ((with_reducible refine' w_augI ?hap ?_); (case hap => exact rfl))
  | with_reducible refine w_rg1 ?_
  | with_reducible refine w_rg2 ?_
  | with_reducible refine w_scup ?_
  | with_reducible refine w_cup ?_
  | with_reducible refine w_neg ?_
  | with_reducible refine w_mean ?_
  | with_reducible refine ⟨_, dLt_ii, ?_⟩
  | with_reducible refine ⟨_, dGt_ii, ?_⟩
  | with_reducible refine ⟨_, dLe_ii, ?_⟩
  | with_reducible refine ⟨_, dGe_ii, ?_⟩
  | with_reducible refine ⟨_, dEq_ii, ?_⟩
  | with_reducible refine ⟨_, dNe_ii, ?_⟩
  | with_reducible refine ⟨_, dLe_ii, fun _ => ?_, fun _ => ?_⟩
  | with_reducible refine ⟨_, dLt_ii, fun _ => ?_, fun _ => ?_⟩
  | with_reducible refine ⟨_, dAdd_ii, ?_⟩
  | with_reducible refine ⟨_, dSub_ii, ?_⟩
  | with_reducible refine ⟨_, isi_int_int, ?_⟩
  | with_reducible refine ⟨_, isi_int_bool, ?_⟩
  | with_reducible refine ⟨_, isi_int_str, ?_⟩
  | with_reducible refine ⟨_, isi_int_tuple, ?_⟩
  | with_reducible refine ⟨_, isi_tuple_int, ?_⟩
  | with_reducible refine ⟨_, isi_tuple_bool, ?_⟩
  | with_reducible refine ⟨_, isi_tuple_str, ?_⟩
  | with_reducible refine ⟨_, isi_tuple_tuple, ?_⟩
  | with_reducible refine ⟨_, isi_str_int, ?_⟩
  | with_reducible refine ⟨_, isi_str_bool, ?_⟩
  | with_reducible refine ⟨_, isi_str_str, ?_⟩
  | with_reducible refine ⟨_, isi_str_tuple, ?_⟩
  | with_reducible refine ⟨_, isi_bool_int, ?_⟩
  | with_reducible refine ⟨_, isi_bool_bool, ?_⟩
  | with_reducible refine ⟨_, isi_bool_str, ?_⟩
  | with_reducible refine ⟨_, isi_bool_tuple, ?_⟩
  | with_reducible refine ⟨_, isi_none_int, ?_⟩
  | with_reducible refine ⟨_, isi_none_bool, ?_⟩
  | with_reducible refine ⟨_, isi_none_str, ?_⟩
  | with_reducible refine ⟨_, isi_none_tuple, ?_⟩
  | with_reducible refine ⟨_, isi_list_int, ?_⟩
  | with_reducible refine ⟨_, isi_list_bool, ?_⟩
  | with_reducible refine ⟨_, isi_list_str, ?_⟩
  | with_reducible refine ⟨_, isi_list_tuple, ?_⟩
  | with_reducible refine ⟨true, rfl, fun _ => ?_, fun h => absurd h (by decide)⟩
  | with_reducible refine ⟨false, rfl, fun h => absurd h (by decide), fun _ => ?_⟩
  | with_reducible refine ⟨_, rfl, fun hb => ?_, fun hb => ?_⟩
  | with_reducible refine ⟨_, rfl, ?_⟩
  | with_reducible refine ⟨fun hb => ?_, fun hb => ?_⟩
  | with_reducible exact ⟨rfl, rfl⟩
  | with_reducible refine ⟨(rfl : isLst _ = true), ?_⟩)
/-! names -/
theorem ints_map : ∀ l : List Int, intsOf (l.map .int) = some l
  | [] => rfl
  | i :: l => by
    show (intsOf (l.map PyData.int)).map (i :: ·) = _
    rw [ints_map l]
    rfl
def letters : Str := "abcdefghijklmnopqrstuvwxyz"
def signs : Str := "abcdefghijklmnopqrstuvwxyz0123456789"
def nameB (x : Str) : Bool := PyData.strOk x && decide (1 ≤ x.length) && decide (x.length ≤ 12) && (match x.cps.toList with | c :: _ => decide (c ∈ letters.cps.toList) | [] => false) && x.cps.toList.all fun c => decide (c ∈ signs.cps.toList)
theorem nameOk_of {x : Str} (h : nameB x = true) : nameOk x := by
  unfold nameB at h
  simp only [Bool.and_eq_true, decide_eq_true_eq] at h
  obtain ⟨⟨⟨⟨h1, h2⟩, h3⟩, h4⟩, h5⟩ := h
  refine ⟨h1, fun cp => wp_of ?_⟩
  unfold m_fits_name
  have hlen : (x.length : Int) = (x.cps.toList.length : Int) := by
    show (x.cps.size : Int) = _
    rw [Array.length_toList]
  cases e : x.cps.toList with
  | nil => rw [e] at h4; cases h4
  | cons c cs =>
    rw [e] at h4 h5
    have hl1 : decide (1 ≤ (x.length : Int)) = true := decide_eq_true (by omega)
    have hl2 : decide ((x.length : Int) ≤ 12) = true := decide_eq_true (by omega)
    repeat walk_at "w"
    · rename_i hb
      rw [hl2] at hb
      cases hb
    · repeat walk_at "w"
      have e0 : dIx (.str x) (.int 0) = some (.str ⟨#[c]⟩) := by
        show (L2.atI x.cps.toList 0).map (fun c => PyData.str ⟨#[c]⟩) = _
        rw [e, show L2.atI (c :: cs) 0 = some c from L2.atI_nat (xs := c :: cs) (j := 0) (v := c) rfl]
        rfl
      have h4 : decide (c ∈ letters.cps.toList) = true := h4
      refine ⟨_, e0, ?_⟩
      have e1 : dIn (.str ⟨#[c]⟩) (.str letters) = some (.bool true) := by
        show some (PyData.bool (decide (c ∈ letters.cps.toList))) = _
        rw [h4]
      refine ⟨_, e1, ?_⟩
      repeat walk_at "w"
      refine w_eq (lcGo_pure (tt := fun _ => true) (ee := fun _ => .bool true) fun d hd => ?_) ?_
      · unfold chars at hd
        obtain ⟨c2, hc2, rfl⟩ := List.mem_map.mp hd
        rw [e] at hc2
        have e2 : dIn (.str ⟨#[c2]⟩) (.str signs) = some (.bool true) := by
          show some (PyData.bool (decide (c2 ∈ signs.cps.toList))) = _
          rw [List.all_eq_true.mp h5 c2 hc2]
        refine ⟨_, rfl, fun cp => ⟨rfl, fun _ => wp_of ?_⟩⟩
        repeat walk_at "w"
        all_goals first | exact ⟨_, e2, rfl, rfl⟩ | (have e3 : decide (c2 ∈ signs.cps.toList) = true := List.all_eq_true.mp h5 c2 hc2; exact congrArg PyData.bool e3) | (have e3 : decide (c2 ∈ signs.cps.toList) = true := List.all_eq_true.mp h5 c2 hc2; exact ⟨congrArg PyData.bool e3, rfl⟩) | trace_state
      · repeat walk_at "w"
        exact ⟨_, bAll_true _, rfl, rfl⟩
    · rename_i hb
      rw [hl1] at hb
      cases hb
theorem bMin_ints {n : Int} {ns : List Int} : bMin2 [.list ((n :: ns).map .int)] = some (.int (ns.foldl min n)) := by
  show (intsOf ((n :: ns).map PyData.int)).bind (fun bs => (minI bs).map PyData.int) = _
  rw [ints_map]
  rfl
theorem bMax_intsT {n : Int} {ns : List Int} : bMax2 [.tuple ((n :: ns).map .int)] = some (.int (ns.foldl max n)) := by
  show (intsOf ((n :: ns).map PyData.int)).bind (fun bs => match bs with | n :: ns => some (PyData.int (ns.foldl max n)) | [] => none) = _
  rw [ints_map]
  rfl
end MP.SI
namespace MP.SI
open PySem MP
local macro_rules | `(tactic| walk_at "w") => `(tactic| first
  | with_reducible refine w_seq ?_
  | with_reducible refine w_set ?_
  | with_reducible refine w_ret ?_
  | with_reducible refine w_cons ?_
  | with_reducible refine w_nil ?_
  | with_reducible refine w_c ?_
  | ((with_reducible refine' w_nm ?hnm ?_); (case hnm => exact rfl))
  | with_reducible refine w_bin ?_
  | with_reducible refine w_b ?_
  | with_reducible refine w_not ?_
  | with_reducible refine w_and ?_
  | with_reducible refine w_or ?_
  | with_reducible refine w_if ?_
  | with_reducible refine w_sif ?_
  | with_reducible refine w_chn ?_
  | with_reducible refine w_call ?_
  | with_reducible refine w_ca ?_
  | with_reducible refine w_tup ?_
  | with_reducible refine w_lst ?_
  | with_reducible refine w_isi ?_
  | with_reducible refine w_drop ?_
  | with_reducible refine w_snil ?_
  | with_reducible refine w_par ?_
  | with_reducible refine w_asg ?_
  | with_reducible refine w_for ?_
  | with_reducible refine w_lc ?_
  | with_reducible refine w_it ?_
  | with_reducible refine w_zip ?_
  | with_reducible refine w_enum ?_
  | with_reducible refine w_sl2 ?_
  | with_reducible refine w_eoN ?_
  | with_reducible refine w_eoS ?_
  | with_reducible refine w_me ?_
  | with_reducible refine w_rev ?_
  | ((with_reducible refine' w_app ?hap ?_); (case hap => exact rfl))
  | ((with_reducible refine' w_augI ?hap ?_); (case hap => exact rfl))
  | with_reducible refine w_rg1 ?_
  | with_reducible refine w_rg2 ?_
  | with_reducible refine w_scup ?_
  | with_reducible refine w_cup ?_
  | with_reducible refine w_neg ?_
  | with_reducible refine w_mean ?_
  | with_reducible refine ⟨_, dLt_ii, ?_⟩
  | with_reducible refine ⟨_, dGt_ii, ?_⟩
  | with_reducible refine ⟨_, dLe_ii, ?_⟩
  | with_reducible refine ⟨_, dGe_ii, ?_⟩
  | with_reducible refine ⟨_, dEq_ii, ?_⟩
  | with_reducible refine ⟨_, dNe_ii, ?_⟩
  | with_reducible refine ⟨_, dLe_ii, fun _ => ?_, fun _ => ?_⟩
  | with_reducible refine ⟨_, dLt_ii, fun _ => ?_, fun _ => ?_⟩
  | with_reducible refine ⟨_, dAdd_ii, ?_⟩
  | with_reducible refine ⟨_, dSub_ii, ?_⟩
  | with_reducible refine ⟨_, isi_int_int, ?_⟩
  | with_reducible refine ⟨_, isi_int_bool, ?_⟩
  | with_reducible refine ⟨_, isi_int_str, ?_⟩
  | with_reducible refine ⟨_, isi_int_tuple, ?_⟩
  | with_reducible refine ⟨_, isi_tuple_int, ?_⟩
  | with_reducible refine ⟨_, isi_tuple_bool, ?_⟩
  | with_reducible refine ⟨_, isi_tuple_str, ?_⟩
  | with_reducible refine ⟨_, isi_tuple_tuple, ?_⟩
  | with_reducible refine ⟨_, isi_str_int, ?_⟩
  | with_reducible refine ⟨_, isi_str_bool, ?_⟩
  | with_reducible refine ⟨_, isi_str_str, ?_⟩
  | with_reducible refine ⟨_, isi_str_tuple, ?_⟩
  | with_reducible refine ⟨_, isi_bool_int, ?_⟩
  | with_reducible refine ⟨_, isi_bool_bool, ?_⟩
  | with_reducible refine ⟨_, isi_bool_str, ?_⟩
  | with_reducible refine ⟨_, isi_bool_tuple, ?_⟩
  | with_reducible refine ⟨_, isi_none_int, ?_⟩
  | with_reducible refine ⟨_, isi_none_bool, ?_⟩
  | with_reducible refine ⟨_, isi_none_str, ?_⟩
  | with_reducible refine ⟨_, isi_none_tuple, ?_⟩
  | with_reducible refine ⟨_, isi_list_int, ?_⟩
  | with_reducible refine ⟨_, isi_list_bool, ?_⟩
  | with_reducible refine ⟨_, isi_list_str, ?_⟩
  | with_reducible refine ⟨_, isi_list_tuple, ?_⟩
  | with_reducible refine ⟨true, rfl, fun _ => ?_, fun h => absurd h (by decide)⟩
  | with_reducible refine ⟨false, rfl, fun h => absurd h (by decide), fun _ => ?_⟩
  | with_reducible refine ⟨_, rfl, fun hb => ?_, fun hb => ?_⟩
  | with_reducible refine ⟨_, rfl, ?_⟩
  | with_reducible refine ⟨fun hb => ?_, fun hb => ?_⟩
  | with_reducible exact ⟨rfl, rfl⟩
  | with_reducible refine ⟨(rfl : isLst _ = true), ?_⟩)
/-! ## what the laws draw -/
def RollOk (R : Mean) : Prop := ∀ (many : Int), 0 < many → many < 1073741824 → ∀ cp, Wp (R [.int many] cp) fun d _ => ∃ r, d = .int r ∧ 0 ≤ r ∧ r < many
def gSome (R : Mean) : Mean := mean true 2
  (sRet (eBin dIx (eNm 1) (eCall R (eCons (eCa bLen (eCons (eNm 1) eNil)) eNil))))
theorem some_ok {R : Mean} (hR : RollOk R) {ds : List D} (h1 : ds ≠ []) (h2 : ds.length < 1073741824) (cp : Cup) : Wp (gSome R [.list ds] cp) fun d _ => d ∈ ds := by
  have hl : 0 < ds.length := List.length_pos_iff.mpr h1
  unfold gSome
  repeat walk_at "w"
  refine w_ex (hR _ (by omega) (by omega) _) ?_
  rintro d c ⟨r, rfl, r0, r1⟩
  obtain ⟨i, rfl⟩ : ∃ i : Nat, r = (i : Int) := ⟨r.toNat, by omega⟩
  have hi : i < ds.length := by omega
  exact ⟨ds[i], L2.atI_nat (List.getElem?_eq_getElem hi), List.getElem_mem hi⟩
def gCountry (R : Mean) : Mean := mean true 4
  (sRet (eCa bTuple (eCons (eLc [3] (gNm 3) (eRg1 (eBin dAdd (eC (.int 1)) (eCall R (eCons (eNm 1) eNil)))) (eC (.bool true)) (eCall R (eCons (eBin dAdd (eC (.int 1)) (eCall (gSome R) (eCons (eLst (eCons (eC (.int 1)) (eCons (eNm 2) eNil))) eNil))) eNil))) eNil)))
theorem country_ok {R : Mean} (hR : RollOk R) {most high : Int} (h1 : 0 < most ∧ most ≤ 200) (h2 : 1 ≤ high ∧ high ≤ 10000) (cp : Cup) : Wp (gCountry R [.int most, .int high] cp) fun d _ => ∃ hs, d = C hs ∧ COk hs ∧ (hs.length : Int) ≤ most := by
  unfold gCountry
  repeat walk_at "w"
  refine w_ex (hR _ (by omega) (by omega) _) ?_
  rintro d c ⟨r, rfl, r0, r1⟩
  repeat walk_at "w"
  refine ⟨okR_of (by omega) (by omega), okLen_of (by omega), ?_⟩
  refine w_ex (lcGo_inv (I := fun dn out => ∃ hs : List Int, out = hs.map .int ∧ hs.length = dn.length ∧ ∀ h ∈ hs, 0 ≤ h ∧ h ≤ 10000) (ds0 := rangeL 0 (1 + r).toNat) ?_ _ [] [] c rfl ⟨[], rfl, rfl, fun h hh => by cases hh⟩) ?_
  · rintro dn d rest out cp e ⟨hs, rfl, hl, hh⟩
    refine ⟨_, rfl, ?_⟩
    repeat walk_at "w"
    refine w_ex (some_ok hR (by simp) (by simp) _) ?_
    rintro d2 c2 hd2
    obtain ⟨x, rfl, hx⟩ : ∃ x : Int, d2 = .int x ∧ 1 ≤ x ∧ x ≤ 10000 := by
      rcases List.mem_cons.mp hd2 with rfl | hd2
      · exact ⟨1, rfl, by omega, by omega⟩
      · obtain rfl := List.mem_singleton.mp hd2
        exact ⟨high, rfl, h2⟩
    repeat walk_at "w"
    refine w_ex (hR _ (by omega) (by omega) _) ?_
    rintro d3 c3 ⟨y, rfl, y0, y1⟩
    refine ⟨hs ++ [y], by rw [List.map_append]; rfl, by rw [List.length_append, List.length_append, hl]; rfl, fun h hm => ?_⟩
    rcases List.mem_append.mp hm with hm | hm
    · exact hh h hm
    · obtain rfl := List.mem_singleton.mp hm
      omega
  · rintro ys c2 ⟨hs, e, hl, hh⟩
    have e : ys = hs.map .int := e
    subst e
    have hl : hs.length = (1 + r).toNat := by
      rw [hl]
      unfold rangeL
      rw [List.length_map, List.length_range]
    repeat walk_at "w"
    exact ⟨⟨by omega, by omega, hh⟩, by omega⟩
def gTurned (R : Mean) : Mean := mean true 5
  (sSeq (sSet 2 (eLst eNil))
  (sSeq (sFor (gNm 3) (eIt (eNm 1))
    (sSeq (sSet 4 (eCall R (eCons (eBin dAdd (eCa bLen (eCons (eNm 2) eNil)) (eC (.int 1))) eNil)))
    (sSet 2 (eBin dAdd (eBin dAdd (eSl (eNm 2) eoN (eoS (eNm 4))) (eLst (eCons (eNm 3) eNil))) (eSl (eNm 2) (eoS (eNm 4)) eoN)))))
  (sRet (eNm 2))))
theorem cut_to {α : Type} (l : List α) (n : Nat) : cutL l none (some (n : Int)) = l.take n := by
  unfold cutL
  rw [HT.sIx_none, show HT.sIx l.length l.length (some (n : Int)) = min n l.length from HT.sIx_nat l.length l.length n, Nat.sub_zero, List.drop_zero]
  by_cases h : n ≤ l.length
  · rw [Nat.min_eq_left h]
  · rw [Nat.min_eq_right (by omega), List.take_of_length_le (Nat.le_refl _), List.take_of_length_le (by omega)]
theorem dAdd_l2 {xs ys : List D} (h : xs.length + ys.length ≤ 16777216) : dAdd (.list xs) (.list ys) = some (.list (xs ++ ys)) := if_pos (okLen_of h)
theorem turned_ok {R : Mean} (hR : RollOk R) {ds : List D} (h2 : ds.length ≤ 1000000) (cp : Cup) : Wp (gTurned R [.list ds] cp) fun d _ => ∃ es, d = .list es ∧ es.Perm ds := by
  unfold gTurned
  repeat walk_at "w"
  refine forGo_inv (I := fun dn r env c => ∃ es z3 z4, env = [none, some (.list ds), some (.list es), z3, z4] ∧ es.Perm dn) (ds0 := ds) ?_ ?_ _ [] _ _ rfl ⟨[], none, none, rfl, List.Perm.refl _⟩
  · rintro dn d r env c e ⟨es, z3, z4, rfl, hp⟩
    have hl : es.length + 1 ≤ ds.length := by
      rw [e, hp.length_eq, List.length_append, List.length_cons]
      omega
    refine ⟨_, rfl, ?_⟩
    repeat walk_at "w"
    refine w_ex (hR _ (by omega) (by omega) _) ?_
    rintro d2 c2 ⟨x, rfl, x0, x1⟩
    obtain ⟨i, rfl⟩ : ∃ i : Nat, x = (i : Int) := ⟨x.toNat, by omega⟩
    repeat walk_at "w"
    rw [cut_to]
    refine ⟨_, dAdd_l2 (by rw [List.length_take]; simp; omega), ?_⟩
    repeat walk_at "w"
    rw [cut_drop]
    refine ⟨_, dAdd_l2 (by rw [List.length_append, List.length_take, List.length_drop]; simp; omega), ?_⟩
    refine ⟨_, some d, some (.int i), rfl, ?_⟩
    have p1 : (es.take i ++ [d] ++ es.drop i).Perm (es ++ [d]) := by
      rw [List.append_assoc]
      refine (List.perm_middle (a := d) (l₁ := es.take i) (l₂ := es.drop i)).trans ?_
      rw [List.take_append_drop]
      exact (List.perm_append_singleton d es).symm
    exact p1.trans (hp.append_right _)
  · rintro env c ⟨es, z3, z4, rfl, hp⟩
    repeat walk_at "w"
    exact hp
/-! sorted names -/
theorem str_ext {x y : Str} (h : x.cps.toList = y.cps.toList) : x = y := PySem.W.str_of_cps h
theorem strLt_tri {x y : Str} (h1 : ¬ strLt x y) (h2 : ¬ strLt y x) : x = y := str_ext (List.le_antisymm (List.not_lt.mp h2) (List.not_lt.mp h1))
theorem strLt_trans {x y z : Str} (h1 : strLt x y) (h2 : strLt y z) : strLt x z := List.lt_trans h1 h2
def leS (x y : Str) : Bool := !decide (strLt y x)
theorem sort_strs {xs : List Str} (hs : ∀ x ∈ xs, PyData.strOk x = true) (nd : xs.Nodup) : ∃ ys : List Str, bSorted [.list (xs.map .str)] = some (.list (ys.map .str)) ∧ ys.Perm xs ∧ ys.Pairwise strLt := by
  refine ⟨xs.mergeSort leS, ?_, List.mergeSort_perm _ _, ?_⟩
  · have ok : srtOk (xs.map .str) = true := by
      unfold srtOk
      rw [Bool.and_eq_true, Bool.and_eq_true]
      refine ⟨⟨List.all_eq_true.mpr fun d hd => ?_, List.all_eq_true.mpr fun d hd => List.all_eq_true.mpr fun e he => ?_⟩, Bool.or_eq_true_iff.mpr (.inr (List.all_eq_true.mpr fun d hd => ?_))⟩
      · obtain ⟨x, hx, rfl⟩ := List.mem_map.mp hd
        rw [PyData.canLay0, hs x hx]
        rfl
      · obtain ⟨x, hx, rfl⟩ := List.mem_map.mp hd
        obtain ⟨y, hy, rfl⟩ := List.mem_map.mp he
        rfl
      · obtain ⟨x, hx, rfl⟩ := List.mem_map.mp hd
        rfl
    show (if srtOk (xs.map PyData.str) = true then some (PyData.list (srt (xs.map PyData.str))) else none) = _
    rw [if_pos ok]
    congr 2
    refine (List.map_mergeSort (r := leS) (s := PySem.W.dataLe false id) (f := PyData.str) fun a _ b _ => ?_).symm
    rw [PySem.W.dataLe_eq]
    show (!decide (strLt b a)) = !(PySem.W.dataLt (.str b) (.str a))
    rw [PySem.W.dataLt_str]
    rfl
  · have tr : ∀ a b c : Str, leS a b = true → leS b c = true → leS a c = true := fun a b c h1 h2 => by
      unfold leS at *
      simp only [Bool.not_eq_true', decide_eq_false_iff_not] at *
      intro h3
      by_cases h4 : strLt a b
      · exact h2 (strLt_trans h3 h4)
      · have := strLt_tri h4 h1
        subst this
        exact h2 h3
    have tot : ∀ a b : Str, (leS a b || leS b a) = true := fun a b => by
      unfold leS
      by_cases h1 : strLt b a
      · have h2 : ¬ strLt a b := fun h2 => strLt_irrefl _ (strLt_trans h1 h2)
        rw [decide_eq_false h2]
        simp
      · rw [decide_eq_false h1]
        simp
    have so := List.pairwise_mergeSort tr tot xs
    have nd2 : (xs.mergeSort leS).Nodup := (List.mergeSort_perm xs leS).nodup_iff.mpr nd
    refine (List.Pairwise.and so nd2).imp fun {a b} h => ?_
    obtain ⟨h1, h2⟩ := h
    unfold leS at h1
    simp only [Bool.not_eq_true', decide_eq_false_iff_not] at h1
    by_cases h3 : strLt a b
    · exact h3
    · exact absurd (strLt_tri h3 h1) h2
end MP.SI
namespace MP.SI
open PySem MP
local macro_rules | `(tactic| walk_at "w") => `(tactic| first
  | with_reducible refine w_seq ?_
  | with_reducible refine w_set ?_
  | with_reducible refine w_ret ?_
  | with_reducible refine w_cons ?_
  | with_reducible refine w_nil ?_
  | with_reducible refine w_c ?_
  | ((with_reducible refine' w_nm ?hnm ?_); (case hnm => exact rfl))
  | with_reducible refine w_bin ?_
  | with_reducible refine w_b ?_
  | with_reducible refine w_not ?_
  | with_reducible refine w_and ?_
  | with_reducible refine w_or ?_
  | with_reducible refine w_if ?_
  | with_reducible refine w_sif ?_
  | with_reducible refine w_chn ?_
  | with_reducible refine w_call ?_
  | with_reducible refine w_ca ?_
  | with_reducible refine w_tup ?_
  | with_reducible refine w_lst ?_
  | with_reducible refine w_isi ?_
  | with_reducible refine w_drop ?_
  | with_reducible refine w_snil ?_
  | with_reducible refine w_par ?_
  | with_reducible refine w_asg ?_
  | with_reducible refine w_for ?_
  | with_reducible refine w_lc ?_
  | with_reducible refine w_it ?_
  | with_reducible refine w_zip ?_
  | with_reducible refine w_enum ?_
  | with_reducible refine w_sl2 ?_
  | with_reducible refine w_eoN ?_
  | with_reducible refine w_eoS ?_
  | with_reducible refine w_me ?_
  | with_reducible refine w_rev ?_
  | ((with_reducible refine' w_app ?hap ?_); (case hap => exact rfl))
  | ((with_reducible refine' w_augI ?hap ?_); (case hap => exact rfl))
  | with_reducible refine w_rg1 ?_
  | with_reducible refine w_rg2 ?_
  | with_reducible refine w_scup ?_
  | with_reducible refine w_cup ?_
  | with_reducible refine w_neg ?_
  | with_reducible refine w_mean ?_
  | with_reducible refine ⟨_, dLt_ii, ?_⟩
  | with_reducible refine ⟨_, dGt_ii, ?_⟩
  | with_reducible refine ⟨_, dLe_ii, ?_⟩
  | with_reducible refine ⟨_, dGe_ii, ?_⟩
  | with_reducible refine ⟨_, dEq_ii, ?_⟩
  | with_reducible refine ⟨_, dNe_ii, ?_⟩
  | with_reducible refine ⟨_, dLe_ii, fun _ => ?_, fun _ => ?_⟩
  | with_reducible refine ⟨_, dLt_ii, fun _ => ?_, fun _ => ?_⟩
  | with_reducible refine ⟨_, dAdd_ii, ?_⟩
  | with_reducible refine ⟨_, dSub_ii, ?_⟩
  | with_reducible refine ⟨_, isi_int_int, ?_⟩
  | with_reducible refine ⟨_, isi_int_bool, ?_⟩
  | with_reducible refine ⟨_, isi_int_str, ?_⟩
  | with_reducible refine ⟨_, isi_int_tuple, ?_⟩
  | with_reducible refine ⟨_, isi_tuple_int, ?_⟩
  | with_reducible refine ⟨_, isi_tuple_bool, ?_⟩
  | with_reducible refine ⟨_, isi_tuple_str, ?_⟩
  | with_reducible refine ⟨_, isi_tuple_tuple, ?_⟩
  | with_reducible refine ⟨_, isi_str_int, ?_⟩
  | with_reducible refine ⟨_, isi_str_bool, ?_⟩
  | with_reducible refine ⟨_, isi_str_str, ?_⟩
  | with_reducible refine ⟨_, isi_str_tuple, ?_⟩
  | with_reducible refine ⟨_, isi_bool_int, ?_⟩
  | with_reducible refine ⟨_, isi_bool_bool, ?_⟩
  | with_reducible refine ⟨_, isi_bool_str, ?_⟩
  | with_reducible refine ⟨_, isi_bool_tuple, ?_⟩
  | with_reducible refine ⟨_, isi_none_int, ?_⟩
  | with_reducible refine ⟨_, isi_none_bool, ?_⟩
  | with_reducible refine ⟨_, isi_none_str, ?_⟩
  | with_reducible refine ⟨_, isi_none_tuple, ?_⟩
  | with_reducible refine ⟨_, isi_list_int, ?_⟩
  | with_reducible refine ⟨_, isi_list_bool, ?_⟩
  | with_reducible refine ⟨_, isi_list_str, ?_⟩
  | with_reducible refine ⟨_, isi_list_tuple, ?_⟩
  | with_reducible refine ⟨true, rfl, fun _ => ?_, fun h => absurd h (by decide)⟩
  | with_reducible refine ⟨false, rfl, fun h => absurd h (by decide), fun _ => ?_⟩
  | with_reducible refine ⟨_, rfl, fun hb => ?_, fun hb => ?_⟩
  | with_reducible refine ⟨_, rfl, ?_⟩
  | with_reducible refine ⟨fun hb => ?_, fun hb => ?_⟩
  | with_reducible exact ⟨rfl, rfl⟩
  | with_reducible refine ⟨(rfl : isLst _ = true), ?_⟩)
def gNames (R : Mean) : Mean := mean true 6
  (sSeq (sSet 2 (eLst (eCons (eC (.str "a")) (eCons (eC (.str "ab")) (eCons (eC (.str "b")) (eCons (eC (.str "b1")) (eCons (eC (.str "c")) (eCons (eC (.str "d")) (eCons (eC (.str "e")) (eCons (eC (.str "ear")) (eCons (eC (.str "f")) (eCons (eC (.str "g")) (eCons (eC (.str "h9")) (eCons (eC (.str "h")) (eCons (eC (.str "i")) (eCons (eC (.str "j")) (eCons (eC (.str "k")) (eCons (eC (.str "k2")) eNil))))))))))))))))))
  (sSeq (sSet 2 (eBin dAdd (eNm 2) (eLst (eCons (eC (.str "l")) (eCons (eC (.str "m")) (eCons (eC (.str "n")) (eCons (eC (.str "o")) (eCons (eC (.str "p")) (eCons (eC (.str "q")) (eCons (eC (.str "r")) (eCons (eC (.str "s")) (eCons (eC (.str "t")) (eCons (eC (.str "u")) (eCons (eC (.str "v")) (eCons (eC (.str "w")) (eCons (eC (.str "x")) (eCons (eC (.str "z")) eNil)))))))))))))))))
  (sSeq (sSet 3 (eLst eNil))
  (sSeq (sFor (gNm 4) (eRg1 (eNm 1))
    (sSeq (sApp 3 (eCall (gSome R) (eCons (eNm 2) eNil)))
    (sSet 2 (eLc [5] (gNm 5) (eIt (eNm 2)) (eB (eBin dNe (eNm 5) (eBin dIx (eNm 3) (eNeg (eC (.int 1)))))) (eNm 5)))))
  (sRet (eCa bSorted (eCons (eNm 3) eNil)))))))
def gTowers (R : Mean) : Mean := mean true 7
  (sSeq (sPar [3, 4] (eCons (eLst eNil) (eCons (eCall (gTurned R) (eCons (eLst (eRg1 (eCa bLen (eCons (eNm 1) eNil)))) eNil)) eNil)))
  (sSeq (sFor (gTp (gsCons (gNm 5) (gsCons (gNm 6) gsNil))) (eEnum (eCall (gNames R) (eCons (eCa bMin2 (eCons (eCa bLen (eCons (eNm 1) eNil)) (eCons (eCall R (eCons (eBin dAdd (eNm 2) (eC (.int 1))) eNil)) eNil))) eNil)))
    (sApp 3 (eTup (eCons (eNm 6) (eCons (eBin dIx (eNm 4) (eNm 5)) (eCons (eCall (gSome R) (eCons (eLst (eCons (eC (.int 0)) (eCons (eCall R (eCons (eC (.int 9)) eNil)) (eCons (eCall R (eCons (eC (.int 60)) eNil)) eNil)))) eNil)) eNil))))))
  (sRet (eCa bTuple (eCons (eNm 3) eNil)))))
def poolA : List Str := ["a", "ab", "b", "b1", "c", "d", "e", "ear", "f", "g", "h9", "h", "i", "j", "k", "k2"]
def poolB : List Str := ["l", "m", "n", "o", "p", "q", "r", "s", "t", "u", "v", "w", "x", "z"]
theorem pool_nd : (poolA ++ poolB).Nodup := by decide +kernel
theorem pool_len : (poolA ++ poolB).length = 30 := rfl
theorem pool_ok : ∀ x ∈ poolA ++ poolB, nameB x = true := by decide +kernel
theorem dNe_ss {x y : Str} (h : PyData.strOk x = true) (k : PyData.strOk y = true) : dNe (.str x) (.str y) = some (.bool (!decide (x = y))) := by
  unfold dNe
  rw [if_pos (by rw [shp_str h, shp_str k]; rfl), eqv_ss]
theorem filter_one {l : List Str} {x : Str} (nd : l.Nodup) (h : x ∈ l) : (l.filter fun y => !decide (y = x)).length + 1 = l.length := by
  induction l with
  | nil => cases h
  | cons a l ih =>
    obtain ⟨n1, n2⟩ := List.nodup_cons.mp nd
    rcases List.mem_cons.mp h with rfl | h
    · rw [List.filter_cons_of_neg (by simp), List.filter_eq_self.mpr fun y hy => by
        have : y ≠ x := fun e => n1 (e ▸ hy)
        simp [this]]
      rfl
    · have : a ≠ x := fun e => n1 (e ▸ h)
      rw [List.filter_cons_of_pos (by simp [this]), List.length_cons, ih n2 h]
      rfl
def neS (x : Str) : D → Bool
  | .str y => !decide (y = x)
  | _ => false
theorem names_loop {R : Mean} (hR : RollOk R) {many : D} {c : Cup} {PO : Out → Cup → Prop} {ds : List D} (hl : ds.length ≤ 30) (z4 z5 : Option D)
    (k : ∀ (F : List Str) (P : D) z4 z5 c, F.Nodup → (∀ x ∈ F, x ∈ poolA ++ poolB) → F.length = ds.length → PO (.nx [none, some many, some P, some (.list (F.map .str)), z4, z5]) c) :
    Wp (forGo (gNm 4) (sSeq (sApp 3 (eCall (gSome R) (eCons (eNm 2) eNil))) (sSet 2 (eLc [5] (gNm 5) (eIt (eNm 2)) (eB (eBin dNe (eNm 5) (eBin dIx (eNm 3) (eNeg (eC (.int 1)))))) (eNm 5)))) ds [none, some many, some (.list ((poolA ++ poolB).map .str)), some (.list []), z4, z5] c) PO := by
  refine forGo_inv (I := fun dn r env c => ∃ (F P : List Str) (z4 z5 : Option D), env = [none, some many, some (.list (P.map .str)), some (.list (F.map .str)), z4, z5] ∧ F.Nodup ∧ P.Nodup ∧ (∀ x ∈ F, x ∈ poolA ++ poolB) ∧ (∀ x ∈ P, x ∈ poolA ++ poolB ∧ x ∉ F) ∧ F.length = dn.length ∧ P.length + F.length = 30) (ds0 := ds) ?_ ?_ _ [] _ _ rfl ⟨[], poolA ++ poolB, z4, z5, rfl, List.nodup_nil, pool_nd, fun x h => (by cases h), fun x h => ⟨h, by simp⟩, rfl, rfl⟩
  · rintro dn d r env c e ⟨F, P, z4, z5, rfl, h1, h2, h3, h4, h5, h6⟩
    have hd : dn.length + 1 ≤ ds.length := by rw [e, List.length_append, List.length_cons]; omega
    have hP : P ≠ [] := fun z => by
      subst z
      rw [List.length_nil] at h6
      omega
    refine ⟨_, rfl, ?_⟩
    repeat walk_at "w"
    refine w_ex (some_ok hR (by simpa using hP) (by rw [List.length_map]; omega) _) ?_
    rintro d2 c2 hd2
    obtain ⟨x, hx, rfl⟩ := List.mem_map.mp hd2
    refine ⟨by rw [List.length_map]; omega, ?_⟩
    repeat walk_at "w"
    have hxs : PyData.strOk x = true := (nameOk_of (pool_ok x (h4 x hx).1)).1
    have el : dIx (.list (F.map .str ++ [.str x])) (.int (-1)) = some (.str x) := L2.atI_last _ _
    refine w_eq (lcGo_pure (tt := neS x) (ee := id) fun d hd => ?_) ?_
    · obtain ⟨y, hy, rfl⟩ := List.mem_map.mp hd
      have hys : PyData.strOk y = true := (nameOk_of (pool_ok y (h4 y hy).1)).1
      refine ⟨_, rfl, fun cp => ⟨wp_of ?_, fun _ => wp_of ?_⟩⟩
      · repeat walk_at "w"
        refine ⟨_, el, ?_⟩
        refine ⟨_, dNe_ss hys hxs, ?_⟩
        repeat walk_at "w"
      · repeat walk_at "w"
    · have ef : (((P.map PyData.str).filter (neS x)).map id) = (P.filter fun y => !decide (y = x)).map .str := by
        rw [List.map_id, List.filter_map]
        rfl
      rw [ef]
      have hf := filter_one h2 hx
      refine ⟨F ++ [x], P.filter fun y => !decide (y = x), some d, z5, by rw [List.map_append]; rfl, ?_, h2.filter _, fun y hy => ?_, fun y hy => ?_, by rw [List.length_append, List.length_append, h5]; rfl, ?_⟩
      · rw [List.nodup_append]
        refine ⟨h1, by simp, fun a ha b hb => ?_⟩
        obtain rfl := List.mem_singleton.mp hb
        exact fun e => (h4 _ hx).2 (e ▸ ha)
      · rcases List.mem_append.mp hy with hy | hy
        · exact h3 y hy
        · obtain rfl := List.mem_singleton.mp hy
          exact (h4 _ hx).1
      · obtain ⟨q1, q2⟩ := List.mem_filter.mp hy
        refine ⟨(h4 y q1).1, fun q3 => ?_⟩
        rcases List.mem_append.mp q3 with q3 | q3
        · exact (h4 y q1).2 q3
        · obtain rfl := List.mem_singleton.mp q3
          simp at q2
      · rw [List.length_append]
        show _ + (F.length + 1) = 30
        omega
  · rintro env c ⟨F, P, z4, z5, rfl, h1, h2, h3, h4, h5, h6⟩
    exact k F _ z4 z5 c h1 h3 h5
theorem names_ok {R : Mean} (hR : RollOk R) {many : Nat} (h : many ≤ 30) (cp : Cup) : Wp (gNames R [.int many] cp) fun d _ => ∃ ys : List Str, d = .list (ys.map .str) ∧ ys.length = many ∧ ys.Pairwise strLt ∧ ∀ y ∈ ys, nameOk y := by
  unfold gNames
  repeat walk_at "w"
  refine ⟨okR_of (by omega) (by omega), okLen_of (by omega), ?_⟩
  refine names_loop hR (by unfold rangeL; rw [List.length_map, List.length_range]; omega) none none (fun F P z4 z5 c h1 h2 h3 => ?_)
  have h3 : F.length = many := by
    rw [h3]
    unfold rangeL
    rw [List.length_map, List.length_range, Int.toNat_natCast]
  obtain ⟨ys, e1, e2, e3⟩ := sort_strs (fun x hx => (nameOk_of (pool_ok x (h2 x hx))).1) h1
  repeat walk_at "w"
  exact ⟨_, e1, ys, rfl, by rw [e2.length_eq, h3], e3, fun y hy => nameOk_of (pool_ok y (h2 y (e2.mem_iff.mp hy)))⟩
theorem names_N {R : Mean} (hR : RollOk R) : ∃ N, N = gNames R ∧ ∀ (many : Nat), many ≤ 30 → ∀ cp, Wp (N [.int many] cp) fun d _ => ∃ ys : List Str, d = .list (ys.map .str) ∧ ys.length = many ∧ ys.Pairwise strLt ∧ ∀ y ∈ ys, nameOk y :=
  ⟨gNames R, rfl, fun many h => names_ok hR h⟩
theorem range_nat1 (n : Nat) : rangeL 0 ((n : Int)).toNat = (List.range n).map fun q : Nat => PyData.int q := by
  unfold rangeL
  rw [Int.toNat_natCast]
  refine List.map_congr_left fun i _ => ?_
  show PyData.int _ = PyData.int _
  rw [Int.zero_add]
theorem towers_ok {R : Mean} (hR : RollOk R) {hs : List Int} {many : Nat} (h : COk hs) (hm : many ≤ 24) (cp : Cup) : Wp (gTowers R [C hs, .int many] cp) fun d _ => ∃ ts, d = TT ts ∧ TOk hs.length ts ∧ ts.length ≤ many := by
  have hl := h.2.1
  have hl1 := h.1
  obtain ⟨N, hN, hnm⟩ := names_N hR
  unfold gTowers
  rw [← hN]
  clear hN
  repeat walk_at "w"
  refine ⟨okR_of (by rw [List.length_map]; omega) (by rw [List.length_map]; omega), okLen_of (by rw [List.length_map]; omega), ?_⟩
  repeat walk_at "w"
  rw [List.length_map, range_nat1]
  refine w_ex (turned_ok hR (by rw [List.length_map, List.length_range]; omega) _) ?_
  rintro d c ⟨es, rfl, hp⟩
  obtain ⟨pl, rfl⟩ : ∃ pl : List Nat, es = pl.map fun q : Nat => PyData.int q := by
    refine ⟨es.map fun d => match d with | .int i => i.toNat | _ => 0, ?_⟩
    rw [List.map_map]
    refine (List.map_id es).symm.trans (List.map_congr_left fun d hd => ?_)
    obtain ⟨q, _, rfl⟩ := List.mem_map.mp (hp.mem_iff.mp hd)
    rfl
  have inj : ∀ a b : Nat, PyData.int (a : Int) = PyData.int (b : Int) → a = b := fun a b e => by
    have := PyData.int.inj e
    omega
  have hnd : (pl.map fun q : Nat => PyData.int q).Nodup := hp.nodup_iff.mpr (by
    show List.Pairwise _ _
    rw [List.pairwise_map]
    exact List.nodup_range.imp fun {a b} hab e => hab (inj a b e))
  have pnd : pl.Nodup := by
    have hnd : List.Pairwise _ _ := hnd
    rw [List.pairwise_map] at hnd
    exact hnd.imp fun {a b} hab e => hab (by rw [e])
  have plen : pl.length = hs.length := by
    have := hp.length_eq
    simpa using this
  have pmem : ∀ p ∈ pl, p < hs.length := fun p hm2 => by
    have : PyData.int (p : Int) ∈ (List.range hs.length).map fun q : Nat => PyData.int q := hp.mem_iff.mp (List.mem_map.mpr ⟨p, hm2, rfl⟩)
    obtain ⟨q, hq, e⟩ := List.mem_map.mp this
    have := inj q p e
    have := List.mem_range.mp hq
    omega
  repeat walk_at "w"
  refine w_ex (hR _ (by omega) (by omega) _) ?_
  rintro d c2 ⟨r, rfl, r0, r1⟩
  obtain ⟨cnt, hc⟩ : ∃ cnt : Nat, min ((hs.length : Nat) : Int) r = (cnt : Int) := ⟨(min ((hs.length : Nat) : Int) r).toNat, by omega⟩
  have hc1 : cnt ≤ hs.length ∧ cnt ≤ many := by omega
  repeat walk_at "w"
  rw [List.length_map, hc]
  refine w_ex (hnm cnt (by omega) _) ?_
  rintro d c3 ⟨ys, rfl, y1, y2, y3⟩
  repeat walk_at "w"
  refine forGo_inv (I := fun dn r env c => ∃ ts z5 z6, env = [none, some (C hs), some (.int many), some (.list (ts.map tw)), some (.list (pl.map fun q : Nat => PyData.int q)), z5, z6] ∧ dn = (enumL (ys.map .str)).take ts.length ∧ r = (enumL (ys.map .str)).drop ts.length ∧ ts.length ≤ ys.length ∧ ts.map (·.1) = ys.take ts.length ∧ ts.map (fun t => t.2.1) = (pl.take ts.length).map (fun q : Nat => (q : Int)) ∧ ∀ t ∈ ts, 0 ≤ t.2.2 ∧ t.2.2 ≤ 10000) (ds0 := enumL (ys.map .str)) ?_ ?_ _ [] _ _ rfl ⟨[], none, none, rfl, rfl, rfl, Nat.zero_le _, rfl, rfl, fun t ht => by cases ht⟩
  · rintro dn d rest env c4 e ⟨ts, z5, z6, rfl, rfl, er, h1, h2, h3, h4⟩
    have hlt : ts.length < ys.length := by
      refine Nat.lt_of_le_of_ne h1 fun z => ?_
      have : (enumL (ys.map PyData.str)).drop ts.length = [] := List.drop_eq_nil_of_le (by rw [enumL_len, List.length_map]; omega)
      rw [this] at er
      cases er
    have hd : (enumL (ys.map PyData.str))[ts.length]? = some d := by
      have := congrArg (·[0]?) er
      simp only [List.getElem?_cons_zero, List.getElem?_drop, Nat.add_zero] at this
      exact this.symm
    obtain ⟨e1, he1, rfl⟩ := enumL_get hd
    rw [List.getElem?_map, List.getElem?_eq_getElem hlt] at he1
    obtain rfl := Option.some.inj he1
    have hpl : ts.length < pl.length := by omega
    have ep : dIx (.list (pl.map fun q : Nat => PyData.int q)) (.int (ts.length : Nat)) = some (.int (pl[ts.length] : Nat)) := L2.atI_nat (by rw [List.getElem?_map, List.getElem?_eq_getElem hpl]; rfl)
    refine ⟨_, rfl, ?_⟩
    repeat walk_at "w"
    refine ⟨_, ep, ?_⟩
    repeat walk_at "w"
    refine w_ex (hR _ (by omega) (by omega) _) ?_
    rintro d2 c5 ⟨x, rfl, x0, x1⟩
    repeat walk_at "w"
    refine w_ex (hR _ (by omega) (by omega) _) ?_
    rintro d3 c6 ⟨y, rfl, w0, w1⟩
    repeat walk_at "w"
    refine w_ex (some_ok hR (by simp) (by simp) _) ?_
    rintro d4 c7 hd4
    obtain ⟨mm, rfl, m0, m1⟩ : ∃ mm : Int, d4 = .int mm ∧ 0 ≤ mm ∧ mm ≤ 10000 := by
      rcases List.mem_cons.mp hd4 with rfl | hd4
      · exact ⟨0, rfl, by omega, by omega⟩
      rcases List.mem_cons.mp hd4 with rfl | hd4
      · exact ⟨x, rfl, by omega, by omega⟩
      obtain rfl := List.mem_singleton.mp hd4
      exact ⟨y, rfl, by omega, by omega⟩
    repeat walk_at "w"
    refine ⟨by rw [List.length_map]; omega, ts ++ [(ys[ts.length], ((pl[ts.length] : Nat) : Int), mm)], some (.int (ts.length : Nat)), some (.str ys[ts.length]), by rw [List.map_append]; rfl, ?_, ?_, by rw [List.length_append]; exact hlt, ?_, ?_, fun t ht => ?_⟩
    · rw [List.length_append, List.length_singleton, List.take_add_one, hd]
      rfl
    · rw [List.length_append, List.length_singleton]
      have := congrArg List.tail er
      rw [List.tail_cons, List.tail_drop] at this
      exact this
    · rw [List.length_append, List.length_singleton, List.map_append, h2, List.take_add_one, List.getElem?_eq_getElem hlt]
      rfl
    · rw [List.length_append, List.length_singleton, List.map_append, h3, List.take_add_one, List.getElem?_eq_getElem hpl, List.map_append]
      rfl
    · rcases List.mem_append.mp ht with ht | ht
      · exact h4 t ht
      · obtain rfl := List.mem_singleton.mp ht
        exact ⟨m0, m1⟩
  · rintro env c4 ⟨ts, z5, z6, rfl, e1, e2, h1, h2, h3, h4⟩
    have hts : ts.length = ys.length := by
      have := congrArg List.length e2
      rw [List.length_drop, enumL_len, List.length_map] at this
      simp at this
      omega
    rw [hts, List.take_length] at h2
    repeat walk_at "w"
    refine ⟨⟨by omega, fun t ht => ?_, by rw [h2]; exact y2, ?_⟩, by omega⟩
    · have hn : t.1 ∈ ys := by rw [← h2]; exact List.mem_map.mpr ⟨t, ht, rfl⟩
      have hp2 : t.2.1 ∈ (pl.take ts.length).map (fun q : Nat => (q : Int)) := by rw [← h3]; exact List.mem_map.mpr ⟨t, ht, rfl⟩
      obtain ⟨q, hq, e⟩ := List.mem_map.mp hp2
      have := pmem q (List.mem_of_mem_take hq)
      exact ⟨y3 _ hn, by omega, by omega, (h4 t ht).1, (h4 t ht).2⟩
    · rw [h3]
      show List.Pairwise _ _
      rw [List.pairwise_map]
      exact (pnd.sublist (List.take_sublist _ _)).imp fun {a b} hab e => hab (by omega)
end MP.SI
namespace L2
open PySem PySem.Spec PyProof.Rows
/-! tuple * 1: the tuple itself -/
theorem mp_tuple_mul1 (l : Addr) (items : Array Value) (n : Nat) (dd : Option Addr) (sl : Array (Option Value)) (u : Tok) :
    Meets (Builtin.«tuple.__mul__» ⟨[.ref l, .int 1 u], []⟩) (fun _ R s => s.heap.get? l = some { cls := .type "tuple", dict := dd, data := .seq items n, slots := sl } ∧
      R (.ok (.ret (Value.ref l))) s) :=
  .of_wp fun prog w A R s h => by
    obtain ⟨hp, g, d, tk, os⟩ := s
    obtain ⟨hl, h⟩ := h
    have f1 := AutoSeq1.idx_int
    have c1 : (items.isEmpty || (1 : Int) == 1) = true := by simp
    wp_walk using wpAny_loadPart' hl
    repeat (first
      | (refine wpAny_ite_false (decide_eq_false (by decide)) ?_; wp_walk using wpAny_loadPart' hl)
      | (refine wpAny_ite_true (decide_eq_true c1) ?_; wp_walk using wpAny_loadPart' hl))
    exact ⟨_, rfl, h⟩
def rRepT1 (K : PySem.W.Frag) : R2 := fun x y H Q => ∃ l xs, x = .ref l ∧ y = .int 1 ∧ SqT K H l xs ∧ Q (.ref l) H
section
variable {X : Cx}
theorem op_repT1 : OpR X (binaryOp .Mult) (rRepT1 X.K) := by
  intro pins s σ H x y v u Q I rx ry h
  obtain ⟨l, xs, rfl, rfl, hT, q⟩ := h
  cases rx
  obtain ⟨t, rfl⟩ := ry
  obtain ⟨its, r, ⟨⟨cls, dd, data, sl⟩, ho, hc, n, hd⟩, hs⟩ := I.tuple hT
  simp only at hc hd
  subst hc hd
  refine wpAny_binaryOp_repeat_ref (T := "tuple") (U := "int") (by decide) ⟨_, ho, rfl⟩ (fun s' => typeIs_int s' 1 t) noFill_tuple_mul PySem.F.fills_int_mul PySem.F.slot_int_rmul repeat_tuple PySem.F.slot_int_index.lookup
    (call_meets PySem.F.slot_int_rmul (typeIs_int s 1 t) PySem.F.entry_int_rmul (PySem.F.args_int_rmul_2 _ _) (int_rmul_tuple 1 t l its.toArray n dd sl)
      ⟨ho, rfl, ⟨_, ho, rfl⟩, call_meets PySem.F.slot_tuple_mul ⟨_, ho, rfl⟩ PySem.F.entry_tuple_mul (PySem.F.args_tuple_mul_2 _ _) (mp_tuple_mul1 l its.toArray n dd sl t) ⟨ho, ?_⟩⟩)
  exact ⟨.ref l, H, I, rfl, q⟩
end
end L2
namespace MP
open PySem PySem.Spec PyProof.Rows L2
def dMul2 : D → D → Option D
  | .tuple xs, .int 1 => some (.tuple xs)
  | a, b => dMul a b
section
variable {X : Cx}
theorem ops_mul2 : OpS X (binaryOp .Mult) dMul2 := by
  obtain ⟨r, hr, go⟩ := ops_mul (X := X)
  refine ⟨_, op_repT1.or hr, fun c W F H x y a b d Q st ra rb e q => ?_⟩
  unfold dMul2 at e
  split at e
  · cases e
    obtain ⟨a1, v1, rfl, h1, l1, r1⟩ := (ra.flat rfl).tupI
    have rb := rb.flat rfl
    cases rb
    exact .inl ⟨a1, v1, rfl, rfl, SqT_same st.sub h1, q F H _ st.refl rfl (fr_flat (.tup h1 l1 r1))⟩
  · exact .inr (go c W F H x y _ _ d Q st ra rb e q)
end
end MP
namespace HT
open PySem PySem.Spec PyProof.Rows L2
section
variable {prog : Program} {w : World} {A : Around} {E : Value → Shared → Prop} {s : Shared}
theorem mp_places (n : Nat) : Builtin.Slice.slicePlaces ((n : Int) - 1) (-1) (-1) = n := by
  unfold Builtin.Slice.slicePlaces
  rw [if_neg (by omega)]
  split
  · rw [show (-(-1 : Int)) = 1 by omega, Int.ediv_one]
    omega
  · omega
theorem mp_fm_congr {α β : Type} {f g : α → Option β} : ∀ {l : List α}, (∀ a ∈ l, f a = g a) → l.filterMap f = l.filterMap g
  | [], _ => rfl
  | a :: l, h => by
    rw [List.filterMap_cons, List.filterMap_cons, h a List.mem_cons_self, mp_fm_congr fun b hb => h b (List.mem_cons_of_mem _ hb)]
theorem mp_pick (xs : Array Value) : ((List.range xs.size).filterMap fun (m : Nat) => xs[(((xs.size : Int) - 1) + (m : Int) * (-1)).toNat]?).toArray = xs.toList.reverse.toArray := by
  have e : (List.range xs.size).filterMap (fun (m : Nat) => xs[(((xs.size : Int) - 1) + (m : Int) * (-1)).toNat]?) = ((List.range xs.size).map fun k => xs.size - 1 - k).filterMap (xs[·]?) := by
    rw [List.filterMap_map]
    refine mp_fm_congr fun m hm => ?_
    have hm := List.mem_range.mp hm
    show _ = xs[xs.size - 1 - m]?
    congr 1
    omega
  rw [e, PySem.W.krv_range, List.filterMap_reverse, PySem.W.krv_all]
theorem mp_getItem_tuple_rev {t sl : Addr} {items : Array Value} {vl vu vs : Value} {Q : Value → Shared → Prop} (ht : IsTup s.heap t items) (hs : s.heap.IsSliceOf sl vl vu vs) (pl : IsPart vl none) (pu : IsPart vu none) (ps : IsPart vs (some (-1)))
    (h : Q (.ref s.heap.objs.size) { s with heap := s.heap.push { cls := .type "tuple", data := .seq items.toList.reverse.toArray } })
    (hsz : items.size ≤ sizeLine) : wpAny (model prog w) A (getItem (.ref t) (.ref sl)) Q E s := by
  have htake : sizeOk (.seq items.toList.reverse.toArray) := by
    show items.toList.reverse.toArray.size ≤ sizeLine
    rw [List.size_toArray, List.length_reverse, Array.length_toList]
    exact hsz
  obtain ⟨os, hos, hcs, hds⟩ := id hs
  have hTs : s.TypeIs (.ref sl) "slice" := ⟨os, hos, hcs⟩
  unfold getItem
  try with_reducible refine wpAny_holding ?_
  first | refine wpAny_bind (wpAny_pure ?_) | skip
  refine wpAny_bind (wpAny_sequenceKey ht.typeIs (by decide) ?_)
  refine wpAny_bind (wpAny_callSpecial?_slot (name := Str.ofString "__getitem__") ht.typeIs PyProof.Rows.slot_tuple_getitem
    (wpAny_call_entry PyProof.Rows.slot_tuple_getitem ht.typeIs entry_tuple_getitem ?_ (args_tuple_getitem _ _)))
  show wpAny _ _ (Builtin.Tuple.tupleItemsOf (.ref t) >>= _) _ _ s
  refine wpAny_bind (tupleItemsOf_ ht ?_)
  refine wpAny_bind (wpAny_typeOf hTs ?_)
  rw [if_pos (by decide)]
  have hap : ∀ {Q : Int × Int × Nat → Shared → Prop}, Q ((items.size : Int) - 1, -1, items.size) s → wpAny (model prog w) (A.in1) (Builtin.Slice.sliceApplied (.ref sl) (pure (items.size : Int))) Q E s := fun {Q} h => by
    unfold Builtin.Slice.sliceApplied Builtin.Slice.sliceFields
    refine wpAny_bind (wpAny_bind (wpAny_field hos hds (x := vl) rfl (wpAny_bind (wpAny_field hos hds (x := vu) rfl (wpAny_bind (wpAny_field hos hds (x := vs) rfl (wpAny_pure ?_)))))))
    refine wpAny_bind (slicePart_ ps ?_)
    show wpAny _ _ (if ((-1 : Int) == 0) = true then _ else _) _ _ s
    rw [if_neg (by decide)]
    refine wpAny_bind (slicePart_ pl (wpAny_bind (slicePart_ pu (wpAny_bind (wpAny_pure ?_)))))
    show wpAny _ _ (pure ((items.size : Int) - 1, (-1 : Int), Builtin.Slice.slicePlaces ((items.size : Int) - 1) (-1) (-1))) _ _ s
    rw [mp_places]
    exact wpAny_pure h
  refine wpAny_bind (hap ?_)
  have hno : ¬ ((((items.size : Int) - 1) == 0 && (-1 : Int) == 1 && items.size == items.size) = true) := by
    intro q
    rw [Bool.and_eq_true, Bool.and_eq_true] at q
    exact absurd (eq_of_beq q.1.2) (by decide)
  show wpAny _ _ (if ((((items.size : Int) - 1) == 0 && (-1 : Int) == 1 && items.size == items.size) = true) then _ else _) _ _ s
  rw [if_neg hno, mp_pick]
  first
    | exact wpAny_bind (m := Builtin.Tuple.tupleExact _) (wpAny_newObj_type (wpAny_pure ⟨_, rfl, wpAny_pure h⟩) htake)
    | exact wpAny_bind (m := Builtin.Tuple.tupleExact _) (wpAny_newObj_type (wpAny_bind (wpAny_pure (wpAny_pure ⟨_, rfl, wpAny_pure h⟩))) htake)
    | exact wpAny_bind (wpAny_bind (m := Builtin.Tuple.tupleExact _) (wpAny_newObj_type (wpAny_pure (wpAny_pure ⟨_, rfl, wpAny_pure h⟩)) htake))
    | exact wpAny_bind (wpAny_bind (m := Builtin.Tuple.tupleExact _) (wpAny_newObj_type (wpAny_pure ⟨_, rfl, wpAny_pure h⟩) htake))
end
end HT
namespace L2
open PySem PySem.Spec PyProof.Rows
section
variable {X : Cx}
def tRevT (K : PySem.W.Frag) (te : TE) : TE := fun σ H Q => te σ H fun x H1 => ∃ a xs, x = .ref a ∧ SqT K H1 a xs ∧ ∀ p, H1 p = none → Q (.ref p) (upd H1 p (.tup xs.reverse))
theorem pe_revT {e : Expr} {te : TE} {k : Nat} {p1 p2 p3 pos : Pos} (he : PE X e te) : PE X (.Subscript e (.Slice none none (some (.UnaryOp .USub (.Constant (.int 1) k p1) p2)) p3) pos) (tRevT X.K te) := by
  refine ⟨fun pins s σ H Q I h => ?_⟩
  refine Subscript_ (thn (he.run pins s σ H _ I h) fun v s1 ⟨x, H1, I1, r1, q1⟩ => ?_)
  obtain ⟨a, xs, ex, hx, q⟩ := q1
  subst ex
  cases r1
  have hst : PO X (some (.UnaryOp .USub (.Constant (.int 1) k p1) p2)) (tPart (tUn (rU fun i => .int (-i)) (tC (.int 1)))) := po_some (pe_un un_neg pe_int)
  refine wpAny_Slice (thn (po_none.run pins s1 σ H1 (fun o H2 => o = none ∧ H2 = H1) I1 ⟨rfl, rfl⟩) fun vl s2 ⟨l, H2, I2, pl, el, e2⟩ => ?_)
  subst el e2
  refine thn (po_none.run pins s2 σ H2 (fun o H3 => o = none ∧ H3 = H2) I2 ⟨rfl, rfl⟩) fun vu s3 ⟨u, H3, I3, pu, eu, e3⟩ => ?_
  subst eu e3
  refine thn (hst.run pins s3 σ H3 (fun o H4 => o = some (-1) ∧ H4 = H3) I3 ⟨1, rfl, -1, rfl, rfl, rfl⟩) fun vs s4 ⟨o, H4, I4, ps, eo, e4⟩ => ?_
  subst eo e4
  have I5 : Inv X pins σ H4 { s4 with heap := s4.heap.push { cls := .type "slice", data := .fields #[vl, vu, vs] } } := I4.kept (t' := s4.toks) fun b ob q => Heap.get?_push_of_some _ q
  obtain ⟨its, r, ht, hz⟩ := I5.tuple hx
  have hlen := r.length
  show wpAny (model X.prog X.w) X.A (subscriptTail e (.Slice none none (some (.UnaryOp .USub (.Constant (.int 1) k p1) p2)) p3) (.ref a) (.ref s4.heap.objs.size)) (EP X pins σ Q) X.xe { s4 with heap := s4.heap.push { cls := .type "slice", data := .fields #[vl, vu, vs] } }
  refine tail_any (ops := [.ref a, .ref s4.heap.objs.size]) ht.typeIs (PyProof.Rows.slot_tuple_getitem.lookup) ?_ (by with_unfolding_all rfl)
  refine HT.mp_getItem_tuple_rev ht (Heap.IsSliceOf.new _ vl vu vs) pl pu ps ?_ (by rw [List.size_toArray]; omega)
  refine ⟨.ref _, _, I5.laid (t' := s4.toks) (o := .tup xs.reverse) (fun b ob q => Heap.get?_push_of_some _ q) (Nat.le_refl _) ?_, rfl, q _ (I5.hok.fresh (Nat.le_refl _))⟩
  exact ⟨by rw [List.length_reverse]; exact hz, _, r.reverse, IsTup.new _ _⟩
end
end L2
namespace MP
open PySem PySem.Spec PyProof.Rows L2
theorem pe_or {X : Cx} {e : Expr} {t t' : TE} (h : PE X e t) (h' : PE X e t') : PE X e (fun σ H Q => t σ H Q ∨ t' σ H Q) :=
  ⟨fun pins s σ H Q I q => q.elim (h.run pins s σ H Q I) (h'.run pins s σ H Q I)⟩
/-- [::-1] of a list, of a tuple -/
def eRv (f : Ev) : Ev := fun env cp => (f env cp).bind fun d cp1 => match d with
  | .list ds => .ok (.list ds.reverse) cp1
  | .tuple ds => .ok (.tuple ds.reverse) cp1
  | _ => .bad
section
variable {X : Cx} {z : Z} {O : List Nat}
theorem q_rv {e : Expr} {f : Ev} {k : Nat} {p1 p2 p3 pos : Pos} (h : QP X z O e f) : QF X z O (.Subscript e (.Slice none none (some (.UnaryOp .USub (.Constant (.int 1) k p1) p2)) p3) pos) (eRv f) := by
  refine ⟨PE.to (pe_or (pe_revL h.pe) (pe_revT h.pe)) ?_⟩
  rintro σ H Q ⟨c, W, A, env, cp, F, p, q⟩
  have q' := q
  unfold eRv at q'
  generalize hr : f env cp = r at q'
  cases r with
  | ok d cp0 =>
    cases d with
    | tuple ds =>
      refine .inr ⟨c, W, A, env, cp, F, p, ?_⟩
      rw [hr]
      intro F1 H1 s1 e1 v r
      have st := p.sit.step s1 e1
      obtain ⟨a, vs, rfl, h1, hl, h2⟩ := (r.flat rfl).tupI
      have q1 : ∀ F' H', Stp c W F H F' H' → H' c = some (cupV cp0) → ∀ v, Fr X.kk H F' H' v (.tuple ds.reverse) → Q v H' := q'
      refine ⟨a, vs, rfl, SqT_same s1.sub h1, fun pa hp => ?_⟩
      have l3 : vs.reverse.length ≤ sizeLine := by rw [List.length_reverse]; exact hl
      exact q1 _ _ (s1.trans (st.newF hp)) ((st.keepc hp).trans e1) _ (fr_newT st hp l3 h2.reverse |>.back s1 e1)
    | list ds =>
      refine .inl ⟨c, W, A, env, cp, F, p, ?_⟩
      rw [hr]
      intro F1 H1 s1 e1 v r
      have st := p.sit.step s1 e1
      obtain ⟨a, vs, rfl, h1, hl, h2⟩ := r.list s1.sub
      have q1 : ∀ F' H', Stp c W F H F' H' → H' c = some (cupV cp0) → ∀ v, Fr X.kk H F' H' v (.list ds.reverse) → Q v H' := q'
      exact ⟨a, vs, rfl, SqL.of h1, fun pa hp => q1 F1 _ (s1.trans (st.new hp)) ((st.keepc hp).trans e1) _ ((fr_new st hp (by rw [List.length_reverse]; exact hl) h2.reverse).back s1 e1)⟩
    | _ => exact q'.elim
  | err x cp0 =>
    refine .inl ⟨c, W, A, env, cp, F, p, ?_⟩
    rw [hr]
    exact q'
  | bad => exact q'.elim
end
end MP
namespace MP
open PySem PySem.Spec PyProof.Rows L2
/-! range with a step -/
def rangeC (lo c : Int) (n : Nat) : List D := (List.range n).map fun i : Nat => .int (lo + (i : Nat) * c)
def rgB (i j c : Int) : Bool := decide (c ≠ 0) && decide (c.natAbs < 1073741824) && Builtin.Range.small i j c && decide (0 ≤ Builtin.Range.rangeSize i j c) && okLen (Builtin.Range.rangeSize i j c).toNat
def eRg3 (a b c : Ev) : Evs := fun env cp => (a env cp).bind fun d cp1 => (b env cp1).bind fun e cp2 => (c env cp2).bind fun g cp3 => match d, e, g with
  | .int i, .int j, .int k => if rgB i j k then .ok (rangeC i k (Builtin.Range.rangeSize i j k).toNat) cp3 else .bad
  | _, _, _ => .bad
theorem src_rangeC {K : MpK} {c : Addr} {F : Hp} {lo st : Int} {n : Nat} (hn : n ≤ sizeLine) : SrcF K c F (Itc lo st n) (rangeC lo st n) where
  len := by unfold rangeC; rw [List.length_map, List.length_range]; exact hn
  go := fun i F2 H2 s t hi => by
    unfold rangeC at hi
    rw [List.length_map, List.length_range] at hi
    exact hi
  stop := fun F2 H2 s t => by
    show n ≤ (rangeC lo st n).length
    unfold rangeC
    rw [List.length_map, List.length_range]
    exact Nat.le_refl _
  yld := fun W2 i F2 H2 H3 v d s st hd y => by
    obtain ⟨rfl, rfl⟩ := y
    unfold rangeC at hd
    rw [List.getElem?_map] at hd
    cases e : (List.range n)[i]? with
    | none => rw [e] at hd; cases hd
    | some k =>
      rw [e] at hd
      cases hd
      have : k = i := by
        obtain ⟨h1, h2⟩ := List.getElem?_eq_some_iff.mp e
        rw [List.getElem_range] at h2
        exact h2.symm
      subst this
      exact ⟨F2, st.refl, rfl, .int _⟩
section
variable {X : Cx} {z : Z} {O : List Nat}
theorem qj_rg3 {tg a b g : Expr} {p pos : Pos} {fa fb fg : Ev} (ha : QE X z O a fa) (hb : QE X z O b fb) (hc : QE X z O g fg) (hm : X.mg "range" = none) (hg : Gl X "range" := by rfl) (hs : starEach [a, b, g] X.env = (false, eval a X.env) :: starEach [b, g] X.env := by rfl) (hs2 : starEach [b, g] X.env = (false, eval b X.env) :: starEach [g] X.env := by rfl) (hs3 : starEach [g] X.env = (false, eval g X.env) :: starEach [] X.env := by rfl) (hpl : (backTo pos (starEach [b, g] X.env)).any (·.1) = false := by rfl) :
    QJ X z O tg (.Call (.Name "range" p) [a, b, g] [] pos) (eRg3 fa fb fg) :=
  ⟨PI.to (pi_range3 hg hm (pa_cons ha.pe (pa_cons hb.pe (pa_cons hc.pe pa_nil hs3) hs2) hs) hs hpl) fun σ H R ⟨c, W, A, env, cp, F, p, q⟩ => ⟨c, W, A, env, cp, F, p, (Aft.bind q).imp fun d cp1 F1 H1 s1 e1 q v r => ⟨c, W, A, env, cp1, F1, p.step s1 e1, (Aft.bind q).imp fun e cp2 F2 H2 s2 e2 q w r2 => ⟨c, W, A, env, cp2, F2, (p.step s1 e1).step s2 e2, (Aft.bind q).imp fun h cp3 F3 H3 s3 e3 q u r3 => by
    cases d with
    | int i =>
      cases e with
      | int j =>
        cases h with
        | int k =>
          cases r; cases r2; cases r3
          have q : Aft z.E c W F3 H3 (if rgB i j k then .ok (rangeC i k (Builtin.Range.rangeSize i j k).toNat) cp3 else .bad) fun ds _ F' H' => ∀ J, SrcF X.kk c F' J ds → R J H' := q
          split at q
          · rename_i hh
            unfold rgB at hh
            simp only [Bool.and_eq_true, decide_eq_true_eq] at hh
            obtain ⟨⟨⟨⟨h1, h2⟩, h3⟩, h4⟩, h5⟩ := hh
            exact ⟨i, j, k, (Builtin.Range.rangeSize i j k).toNat, rfl, ⟨h1, h2, h3, (Int.toNat_of_nonneg h4).symm⟩, q F3 H3 s3.sitStep e3 _ (src_rangeC (by rw [sizeLine_eq]; exact h5))⟩
          · exact q.elim
        | _ => exact q.elim
      | _ => exact q.elim
    | _ => exact q.elim⟩⟩⟩⟩
end
end MP
namespace MP.SI
open PySem MP MP.SI
local macro_rules | `(tactic| walk_at "w") => `(tactic| first
  | with_reducible refine w_seq ?_
  | with_reducible refine w_set ?_
  | with_reducible refine w_ret ?_
  | with_reducible refine w_cons ?_
  | with_reducible refine w_nil ?_
  | with_reducible refine w_c ?_
  | ((with_reducible refine' w_nm ?hnm ?_); (case hnm => exact rfl))
  | with_reducible refine w_bin ?_
  | with_reducible refine w_b ?_
  | with_reducible refine w_not ?_
  | with_reducible refine w_and ?_
  | with_reducible refine w_or ?_
  | with_reducible refine w_if ?_
  | with_reducible refine w_sif ?_
  | with_reducible refine w_chn ?_
  | with_reducible refine w_call ?_
  | with_reducible refine w_ca ?_
  | with_reducible refine w_tup ?_
  | with_reducible refine w_lst ?_
  | with_reducible refine w_isi ?_
  | with_reducible refine w_drop ?_
  | with_reducible refine w_snil ?_
  | with_reducible refine w_par ?_
  | with_reducible refine w_asg ?_
  | with_reducible refine w_for ?_
  | with_reducible refine w_lc ?_
  | with_reducible refine w_it ?_
  | with_reducible refine w_zip ?_
  | with_reducible refine w_enum ?_
  | with_reducible refine w_sl2 ?_
  | with_reducible refine w_eoN ?_
  | with_reducible refine w_eoS ?_
  | with_reducible refine w_me ?_
  | with_reducible refine w_rev ?_
  | ((with_reducible refine' w_app ?hap ?_); (case hap => exact rfl))
  | ((with_reducible refine' w_augI ?hap ?_); (case hap => exact rfl))
  | with_reducible refine w_rg1 ?_
  | with_reducible refine w_rg2 ?_
  | with_reducible refine w_scup ?_
  | with_reducible refine w_cup ?_
  | with_reducible refine w_neg ?_
  | with_reducible refine w_mean ?_
  | with_reducible refine ⟨_, dLt_ii, ?_⟩
  | with_reducible refine ⟨_, dGt_ii, ?_⟩
  | with_reducible refine ⟨_, dLe_ii, ?_⟩
  | with_reducible refine ⟨_, dGe_ii, ?_⟩
  | with_reducible refine ⟨_, dEq_ii, ?_⟩
  | with_reducible refine ⟨_, dNe_ii, ?_⟩
  | with_reducible refine ⟨_, dLe_ii, fun _ => ?_, fun _ => ?_⟩
  | with_reducible refine ⟨_, dLt_ii, fun _ => ?_, fun _ => ?_⟩
  | with_reducible refine ⟨_, dAdd_ii, ?_⟩
  | with_reducible refine ⟨_, dSub_ii, ?_⟩
  | with_reducible refine ⟨_, isi_int_int, ?_⟩
  | with_reducible refine ⟨_, isi_int_bool, ?_⟩
  | with_reducible refine ⟨_, isi_int_str, ?_⟩
  | with_reducible refine ⟨_, isi_int_tuple, ?_⟩
  | with_reducible refine ⟨_, isi_tuple_int, ?_⟩
  | with_reducible refine ⟨_, isi_tuple_bool, ?_⟩
  | with_reducible refine ⟨_, isi_tuple_str, ?_⟩
  | with_reducible refine ⟨_, isi_tuple_tuple, ?_⟩
  | with_reducible refine ⟨_, isi_str_int, ?_⟩
  | with_reducible refine ⟨_, isi_str_bool, ?_⟩
  | with_reducible refine ⟨_, isi_str_str, ?_⟩
  | with_reducible refine ⟨_, isi_str_tuple, ?_⟩
  | with_reducible refine ⟨_, isi_bool_int, ?_⟩
  | with_reducible refine ⟨_, isi_bool_bool, ?_⟩
  | with_reducible refine ⟨_, isi_bool_str, ?_⟩
  | with_reducible refine ⟨_, isi_bool_tuple, ?_⟩
  | with_reducible refine ⟨_, isi_none_int, ?_⟩
  | with_reducible refine ⟨_, isi_none_bool, ?_⟩
  | with_reducible refine ⟨_, isi_none_str, ?_⟩
  | with_reducible refine ⟨_, isi_none_tuple, ?_⟩
  | with_reducible refine ⟨_, isi_list_int, ?_⟩
  | with_reducible refine ⟨_, isi_list_bool, ?_⟩
  | with_reducible refine ⟨_, isi_list_str, ?_⟩
  | with_reducible refine ⟨_, isi_list_tuple, ?_⟩
  | with_reducible refine ⟨true, rfl, fun _ => ?_, fun h => absurd h (by decide)⟩
  | with_reducible refine ⟨false, rfl, fun h => absurd h (by decide), fun _ => ?_⟩
  | with_reducible refine ⟨_, rfl, fun hb => ?_, fun hb => ?_⟩
  | with_reducible refine ⟨_, rfl, ?_⟩
  | with_reducible refine ⟨fun hb => ?_, fun hb => ?_⟩
  | with_reducible exact ⟨rfl, rfl⟩
  | with_reducible refine ⟨(rfl : isLst _ = true), ?_⟩)
/-! ## tools -/
section
variable {α : Type} {g : Tg} {body : Sv} {t e : Ev} {env : MP.Env} {PO : Out → Cup → Prop}
/-- a loop over things laid as data -/
theorem forGo_map {f : α → D} {l : List α} (I : List α → List α → MP.Env → Cup → Prop) (h : ∀ (ps : List α) (a : α) (r : List α) (env : MP.Env) (cp : Cup), l = ps ++ a :: r → I ps (a :: r) env cp → ∃ env1, g (f a) env = some env1 ∧ Wp (body env1 cp) fun o c => match o with
    | .nx env2 => I (ps ++ [a]) r env2 c
    | .ct env2 => I (ps ++ [a]) r env2 c
    | .bk env2 => PO (.nx env2) c
    | .rt d => PO (.rt d) c) (hend : ∀ env cp, I l [] env cp → PO (.nx env) cp) : ∀ (r ps : List α) (env : MP.Env) (cp : Cup), l = ps ++ r → I ps r env cp → Wp (forGo g body (r.map f) env cp) PO
  | [], ps, env, cp, e, i => by
    rw [List.append_nil] at e
    subst e
    exact ⟨hend _ _ i⟩
  | a :: r, ps, env, cp, e, i => by
    obtain ⟨env1, h1, h2⟩ := h ps a r env cp e i
    rw [List.map_cons, forGo, h1]
    refine w_bind (w_ex h2 fun o c q => ?_)
    cases o with
    | nx env2 => exact forGo_map I h hend r (ps ++ [a]) env2 c (by rw [e, List.append_assoc]; rfl) q
    | ct env2 => exact forGo_map I h hend r (ps ++ [a]) env2 c (by rw [e, List.append_assoc]; rfl) q
    | bk env2 => exact ⟨q⟩
    | rt d => exact ⟨q⟩
/-- a loop whose invariant does not look at what is done -/
theorem forGo_any {ds : List D} (I : MP.Env → Cup → Prop) (h : ∀ (d : D) (env : MP.Env) (cp : Cup), d ∈ ds → I env cp → ∃ env1, g d env = some env1 ∧ Wp (body env1 cp) fun o c => match o with
    | .nx env2 => I env2 c
    | .ct env2 => I env2 c
    | .bk env2 => PO (.nx env2) c
    | .rt d => PO (.rt d) c) (hend : ∀ env cp, I env cp → PO (.nx env) cp) (env : MP.Env) (cp : Cup) (i : I env cp) : Wp (forGo g body ds env cp) PO := by
  have := forGo_map (g := g) (body := body) (PO := PO) (f := id) (l := ds) (I := fun _ _ env c => I env c) (fun ps a r env cp e i => h a env cp (by rw [e]; simp) i) (fun env cp i => hend env cp i) ds [] env cp rfl i
  rwa [List.map_id] at this
/-- a comprehension over things laid as data -/
theorem lcGo_mapP {f : α → D} {tt : α → Bool} {ee : α → D} : ∀ {l : List α} {cp : Cup}, (∀ a ∈ l, ∃ env', g (f a) env = some env' ∧ ∀ cp, t env' cp = .ok (.bool (tt a)) cp ∧ (tt a = true → e env' cp = .ok (ee a) cp)) → lcGo g t e env (l.map f) cp = .ok ((l.filter tt).map ee) cp
  | [], _, _ => rfl
  | d :: ds, cp, h => by
    obtain ⟨env', h1, h2⟩ := h d List.mem_cons_self
    obtain ⟨h3, h4⟩ := h2 cp
    have ih := lcGo_mapP (l := ds) (cp := cp) fun x hx => h x (List.mem_cons_of_mem _ hx)
    rw [List.map_cons, lcGo, h1]
    dsimp only
    rw [h3]
    cases ht : tt d with
    | true =>
      rw [List.filter_cons_of_pos ht]
      show (nE (e env' cp)).bind _ = _
      rw [h4 ht]
      show (lcGo g t e env (ds.map f) cp).bind _ = _
      rw [ih]
      rfl
    | false =>
      rw [List.filter_cons_of_neg (by rw [ht]; decide)]
      exact ih
theorem lcGo_mapA {f : α → D} {ee : α → D} {l : List α} {cp : Cup} (h : ∀ a ∈ l, ∃ env', g (f a) env = some env' ∧ ∀ cp, e env' cp = .ok (ee a) cp) : lcGo g (eC (.bool true)) e env (l.map f) cp = .ok (l.map ee) cp := by
  rw [lcGo_mapP (tt := fun _ => true) (ee := ee) fun a ha => by
    obtain ⟨env', h1, h2⟩ := h a ha
    exact ⟨env', h1, fun cp => ⟨rfl, fun _ => h2 cp⟩⟩, List.filter_eq_self.mpr fun _ _ => rfl]
/-- a comprehension that draws which ones it keeps -/
theorem lcGo_sub {f : α → D} {ee : α → D} : ∀ {l : List α} {cp : Cup}, (∀ a ∈ l, ∃ env', g (f a) env = some env' ∧ ∀ cp, Wp (t env' cp) fun b c => ∃ k, b = .bool k ∧ (k = true → e env' c = .ok (ee a) c)) → Wp (lcGo g t e env (l.map f) cp) fun ys _ => ∃ us : List α, us.Sublist l ∧ ys = us.map ee
  | [], _, _ => ⟨⟨[], List.Sublist.refl _, rfl⟩⟩
  | d :: ds, cp, h => by
    obtain ⟨env', h1, h2⟩ := h d List.mem_cons_self
    obtain ⟨b, c, e1, k, rfl, h4⟩ := (h2 cp).ok
    have ih := fun cp => lcGo_sub (f := f) (ee := ee) (l := ds) (cp := cp) fun x hx => h x (List.mem_cons_of_mem _ hx)
    rw [List.map_cons, lcGo, h1]
    dsimp only
    rw [e1]
    cases k with
    | true =>
      show Wp ((nE (e env' c)).bind _) _
      rw [h4 rfl]
      show Wp ((lcGo g t e env (ds.map f) c).bind _) _
      refine w_bind (w_ex (ih c) fun ys c3 q => ?_)
      obtain ⟨us, q1, rfl⟩ := q
      exact ⟨⟨d :: us, q1.cons₂ d, rfl⟩⟩
    | false =>
      show Wp (lcGo g t e env (ds.map f) c) _
      refine w_ex (ih c) fun ys c3 q => ?_
      obtain ⟨us, q1, rfl⟩ := q
      exact ⟨us, q1.cons d, rfl⟩
end
theorem lst_nil {l : List D} : PyData.eqv (.list l) (.list []) = l.isEmpty := by
  cases l <;> rfl
theorem dEq_nil {l : List D} (h : ∀ d ∈ l, d.canLay0 = true ∧ d.depth ≤ 63) : dEq (.list l) (.list []) = some (.bool l.isEmpty) := by
  unfold dEq
  rw [if_pos (by rw [shp_list h]; rfl), lst_nil]
theorem dNe_nil {l : List D} (h : ∀ d ∈ l, d.canLay0 = true ∧ d.depth ≤ 63) : dNe (.list l) (.list []) = some (.bool (!l.isEmpty)) := by
  unfold dNe
  rw [if_pos (by rw [shp_list h]; rfl), lst_nil]
abbrev NL (l : List Nat) : D := .list (l.map fun p : Nat => .int p)
theorem dEq_nats {l : List Nat} : dEq (NL l) (.list []) = some (.bool l.isEmpty) := by
  rw [dEq_nil fun d hd => by obtain ⟨i, _, rfl⟩ := List.mem_map.mp hd; exact ⟨rfl, Nat.zero_le _⟩, List.isEmpty_map]
theorem dNe_nats {l : List Nat} : dNe (NL l) (.list []) = some (.bool (!l.isEmpty)) := by
  rw [dNe_nil fun d hd => by obtain ⟨i, _, rfl⟩ := List.mem_map.mp hd; exact ⟨rfl, Nat.zero_le _⟩, List.isEmpty_map]
theorem bMax_list {l : List Int} (h : l ≠ []) : ∃ M, bMax2 [.list (l.map .int)] = some (.int M) ∧ M ∈ l ∧ ∀ y ∈ l, y ≤ M := by
  cases l with
  | nil => exact absurd rfl h
  | cons n ns =>
    refine ⟨ns.foldl max n, ?_, foldl_max_spec ns n⟩
    show (intsOf ((n :: ns).map PyData.int)).bind (fun bs => (maxI bs).map PyData.int) = _
    rw [ints_map]
    rfl
theorem dAdd_lst {xs ys : List D} (h : xs.length + ys.length ≤ 16777216) : dAdd (.list xs) (.list ys) = some (.list (xs ++ ys)) := if_pos (okLen_of h)
theorem dAdd_tup {xs ys : List D} (h : xs.length + ys.length ≤ 16777216) : dAdd (.tuple xs) (.tuple ys) = some (.tuple (xs ++ ys)) := if_pos (okLen_of h)
theorem gd_t2 {k : Nat} {a b : D} (h : gd k a) (h2 : gd k b) : gd (k + 1) (.tuple [a, b]) := by
  refine ⟨by show 2 ≤ 16777216; omega, fun d hd => ?_⟩
  rcases List.mem_cons.mp hd with rfl | hd
  · exact h
  · obtain rfl := List.mem_singleton.mp hd
    exact h2
theorem gd_natsT {k : Nat} {l : List Nat} (h : l.length ≤ 16777216) : gd (k + 2) (.tuple (l.map fun q : Nat => .int q)) := by
  refine ⟨by rw [List.length_map]; exact h, fun d hd => ?_⟩
  obtain ⟨i, _, rfl⟩ := List.mem_map.mp hd
  exact trivial
/-- what is like what it shall be -/
theorem same_w {n : Nat} {d e : D} {cp : Cup} {P : D → Cup → Prop} (h : gd n e) (q : d = e) (k : P (.bool true) cp) : Wp (m_law_same n [d, e] cp) P := by
  subst q
  exact w_eq (same_ok n d cp h) k
end MP.SI
namespace MP.SI
open PySem MP MP.SI
local macro_rules | `(tactic| walk_at "w") => `(tactic| first
  | with_reducible refine w_seq ?_
  | with_reducible refine w_set ?_
  | with_reducible refine w_ret ?_
  | with_reducible refine w_cons ?_
  | with_reducible refine w_nil ?_
  | with_reducible refine w_c ?_
  | ((with_reducible refine' w_nm ?hnm ?_); (case hnm => exact rfl))
  | with_reducible refine w_bin ?_
  | with_reducible refine w_b ?_
  | with_reducible refine w_not ?_
  | with_reducible refine w_and ?_
  | with_reducible refine w_or ?_
  | with_reducible refine w_if ?_
  | with_reducible refine w_sif ?_
  | with_reducible refine w_chn ?_
  | with_reducible refine w_call ?_
  | with_reducible refine w_ca ?_
  | with_reducible refine w_tup ?_
  | with_reducible refine w_lst ?_
  | with_reducible refine w_isi ?_
  | with_reducible refine w_drop ?_
  | with_reducible refine w_snil ?_
  | with_reducible refine w_par ?_
  | with_reducible refine w_asg ?_
  | with_reducible refine w_for ?_
  | with_reducible refine w_lc ?_
  | with_reducible refine w_it ?_
  | with_reducible refine w_zip ?_
  | with_reducible refine w_enum ?_
  | with_reducible refine w_sl2 ?_
  | with_reducible refine w_eoN ?_
  | with_reducible refine w_eoS ?_
  | with_reducible refine w_me ?_
  | with_reducible refine w_rev ?_
  | ((with_reducible refine' w_app ?hap ?_); (case hap => exact rfl))
  | ((with_reducible refine' w_augI ?hap ?_); (case hap => exact rfl))
  | with_reducible refine w_rg1 ?_
  | with_reducible refine w_rg2 ?_
  | with_reducible refine w_scup ?_
  | with_reducible refine w_cup ?_
  | with_reducible refine w_neg ?_
  | with_reducible refine w_mean ?_
  | with_reducible refine ⟨_, dLt_ii, ?_⟩
  | with_reducible refine ⟨_, dGt_ii, ?_⟩
  | with_reducible refine ⟨_, dLe_ii, ?_⟩
  | with_reducible refine ⟨_, dGe_ii, ?_⟩
  | with_reducible refine ⟨_, dEq_ii, ?_⟩
  | with_reducible refine ⟨_, dNe_ii, ?_⟩
  | with_reducible refine ⟨_, dLe_ii, fun _ => ?_, fun _ => ?_⟩
  | with_reducible refine ⟨_, dLt_ii, fun _ => ?_, fun _ => ?_⟩
  | with_reducible refine ⟨_, dAdd_ii, ?_⟩
  | with_reducible refine ⟨_, dSub_ii, ?_⟩
  | with_reducible refine ⟨_, isi_int_int, ?_⟩
  | with_reducible refine ⟨_, isi_int_bool, ?_⟩
  | with_reducible refine ⟨_, isi_int_str, ?_⟩
  | with_reducible refine ⟨_, isi_int_tuple, ?_⟩
  | with_reducible refine ⟨_, isi_tuple_int, ?_⟩
  | with_reducible refine ⟨_, isi_tuple_bool, ?_⟩
  | with_reducible refine ⟨_, isi_tuple_str, ?_⟩
  | with_reducible refine ⟨_, isi_tuple_tuple, ?_⟩
  | with_reducible refine ⟨_, isi_str_int, ?_⟩
  | with_reducible refine ⟨_, isi_str_bool, ?_⟩
  | with_reducible refine ⟨_, isi_str_str, ?_⟩
  | with_reducible refine ⟨_, isi_str_tuple, ?_⟩
  | with_reducible refine ⟨_, isi_bool_int, ?_⟩
  | with_reducible refine ⟨_, isi_bool_bool, ?_⟩
  | with_reducible refine ⟨_, isi_bool_str, ?_⟩
  | with_reducible refine ⟨_, isi_bool_tuple, ?_⟩
  | with_reducible refine ⟨_, isi_none_int, ?_⟩
  | with_reducible refine ⟨_, isi_none_bool, ?_⟩
  | with_reducible refine ⟨_, isi_none_str, ?_⟩
  | with_reducible refine ⟨_, isi_none_tuple, ?_⟩
  | with_reducible refine ⟨_, isi_list_int, ?_⟩
  | with_reducible refine ⟨_, isi_list_bool, ?_⟩
  | with_reducible refine ⟨_, isi_list_str, ?_⟩
  | with_reducible refine ⟨_, isi_list_tuple, ?_⟩
  | with_reducible refine ⟨true, rfl, fun _ => ?_, fun h => absurd h (by decide)⟩
  | with_reducible refine ⟨false, rfl, fun h => absurd h (by decide), fun _ => ?_⟩
  | with_reducible refine ⟨_, rfl, fun hb => ?_, fun hb => ?_⟩
  | with_reducible refine ⟨_, rfl, ?_⟩
  | with_reducible refine ⟨fun hb => ?_, fun hb => ?_⟩
  | with_reducible exact ⟨rfl, rfl⟩
  | with_reducible refine ⟨(rfl : isLst _ = true), ?_⟩)
/-! ## what the laws draw, within their bounds -/
theorem country_okB {R : Mean} (hR : RollOk R) {most high : Int} (h1 : 0 < most ∧ most ≤ 200) (h2 : 1 ≤ high ∧ high ≤ 10000) (cp : Cup) : Wp (gCountry R [.int most, .int high] cp) fun d _ => ∃ hs, d = C hs ∧ COk hs ∧ (hs.length : Int) ≤ most ∧ ∀ h ∈ hs, h ≤ high := by
  unfold gCountry
  repeat walk_at "w"
  refine w_ex (hR _ (by omega) (by omega) _) ?_
  rintro d c ⟨r, rfl, r0, r1⟩
  repeat walk_at "w"
  refine ⟨okR_of (by omega) (by omega), okLen_of (by omega), ?_⟩
  refine w_ex (lcGo_inv (I := fun dn out => ∃ hs : List Int, out = hs.map .int ∧ hs.length = dn.length ∧ ∀ h ∈ hs, 0 ≤ h ∧ h ≤ high) (ds0 := rangeL 0 (1 + r).toNat) ?_ _ [] [] c rfl ⟨[], rfl, rfl, fun h hh => by cases hh⟩) ?_
  · rintro dn d rest out cp e ⟨hs, rfl, hl, hh⟩
    refine ⟨_, rfl, ?_⟩
    repeat walk_at "w"
    refine w_ex (some_ok hR (by simp) (by simp) _) ?_
    rintro d2 c2 hd2
    obtain ⟨x, rfl, hx⟩ : ∃ x : Int, d2 = .int x ∧ 1 ≤ x ∧ x ≤ high := by
      rcases List.mem_cons.mp hd2 with rfl | hd2
      · exact ⟨1, rfl, by omega, by omega⟩
      · obtain rfl := List.mem_singleton.mp hd2
        exact ⟨high, rfl, h2.1, Int.le_refl _⟩
    repeat walk_at "w"
    refine w_ex (hR _ (by omega) (by omega) _) ?_
    rintro d3 c3 ⟨y, rfl, y0, y1⟩
    refine ⟨hs ++ [y], by rw [List.map_append]; rfl, by rw [List.length_append, List.length_append, hl]; rfl, fun h hm => ?_⟩
    rcases List.mem_append.mp hm with hm | hm
    · exact hh h hm
    · obtain rfl := List.mem_singleton.mp hm
      omega
  · rintro ys c2 ⟨hs, e, hl, hh⟩
    have e : ys = hs.map .int := e
    subst e
    have hl : hs.length = (1 + r).toNat := by
      rw [hl]
      unfold rangeL
      rw [List.length_map, List.length_range]
    repeat walk_at "w"
    exact ⟨⟨by omega, by omega, fun h m => ⟨(hh h m).1, by have := (hh h m).2; omega⟩⟩, by omega, fun h m => (hh h m).2⟩
theorem towers_okB {R : Mean} (hR : RollOk R) {hs : List Int} {many : Nat} (h : COk hs) (hm : many ≤ 24) (cp : Cup) : Wp (gTowers R [C hs, .int many] cp) fun d _ => ∃ ts, d = TT ts ∧ TOk hs.length ts ∧ ts.length ≤ many ∧ ∀ t ∈ ts, t.2.2 ≤ 60 := by
  have hl := h.2.1
  have hl1 := h.1
  obtain ⟨N, hN, hnm⟩ := names_N hR
  unfold gTowers
  rw [← hN]
  clear hN
  repeat walk_at "w"
  refine ⟨okR_of (by rw [List.length_map]; omega) (by rw [List.length_map]; omega), okLen_of (by rw [List.length_map]; omega), ?_⟩
  repeat walk_at "w"
  rw [List.length_map, range_nat1]
  refine w_ex (turned_ok hR (by rw [List.length_map, List.length_range]; omega) _) ?_
  rintro d c ⟨es, rfl, hp⟩
  obtain ⟨pl, rfl⟩ : ∃ pl : List Nat, es = pl.map fun q : Nat => PyData.int q := by
    refine ⟨es.map fun d => match d with | .int i => i.toNat | _ => 0, ?_⟩
    rw [List.map_map]
    refine (List.map_id es).symm.trans (List.map_congr_left fun d hd => ?_)
    obtain ⟨q, _, rfl⟩ := List.mem_map.mp (hp.mem_iff.mp hd)
    rfl
  have inj : ∀ a b : Nat, PyData.int (a : Int) = PyData.int (b : Int) → a = b := fun a b e => by
    have := PyData.int.inj e
    omega
  have hnd : (pl.map fun q : Nat => PyData.int q).Nodup := hp.nodup_iff.mpr (by
    show List.Pairwise _ _
    rw [List.pairwise_map]
    exact List.nodup_range.imp fun {a b} hab e => hab (inj a b e))
  have pnd : pl.Nodup := by
    have hnd : List.Pairwise _ _ := hnd
    rw [List.pairwise_map] at hnd
    exact hnd.imp fun {a b} hab e => hab (by rw [e])
  have plen : pl.length = hs.length := by
    have := hp.length_eq
    simpa using this
  have pmem : ∀ p ∈ pl, p < hs.length := fun p hm2 => by
    have : PyData.int (p : Int) ∈ (List.range hs.length).map fun q : Nat => PyData.int q := hp.mem_iff.mp (List.mem_map.mpr ⟨p, hm2, rfl⟩)
    obtain ⟨q, hq, e⟩ := List.mem_map.mp this
    have := inj q p e
    have := List.mem_range.mp hq
    omega
  repeat walk_at "w"
  refine w_ex (hR _ (by omega) (by omega) _) ?_
  rintro d c2 ⟨r, rfl, r0, r1⟩
  obtain ⟨cnt, hc⟩ : ∃ cnt : Nat, min ((hs.length : Nat) : Int) r = (cnt : Int) := ⟨(min ((hs.length : Nat) : Int) r).toNat, by omega⟩
  have hc1 : cnt ≤ hs.length ∧ cnt ≤ many := by omega
  repeat walk_at "w"
  rw [List.length_map, hc]
  refine w_ex (hnm cnt (by omega) _) ?_
  rintro d c3 ⟨ys, rfl, y1, y2, y3⟩
  repeat walk_at "w"
  refine forGo_inv (I := fun dn r env c => ∃ ts z5 z6, env = [none, some (C hs), some (.int many), some (.list (ts.map tw)), some (.list (pl.map fun q : Nat => PyData.int q)), z5, z6] ∧ dn = (enumL (ys.map .str)).take ts.length ∧ r = (enumL (ys.map .str)).drop ts.length ∧ ts.length ≤ ys.length ∧ ts.map (·.1) = ys.take ts.length ∧ ts.map (fun t => t.2.1) = (pl.take ts.length).map (fun q : Nat => (q : Int)) ∧ ∀ t ∈ ts, 0 ≤ t.2.2 ∧ t.2.2 ≤ 60) (ds0 := enumL (ys.map .str)) ?_ ?_ _ [] _ _ rfl ⟨[], none, none, rfl, rfl, rfl, Nat.zero_le _, rfl, rfl, fun t ht => by cases ht⟩
  · rintro dn d rest env c4 e ⟨ts, z5, z6, rfl, rfl, er, h1, h2, h3, h4⟩
    have hlt : ts.length < ys.length := by
      refine Nat.lt_of_le_of_ne h1 fun z => ?_
      have : (enumL (ys.map PyData.str)).drop ts.length = [] := List.drop_eq_nil_of_le (by rw [enumL_len, List.length_map]; omega)
      rw [this] at er
      cases er
    have hd : (enumL (ys.map PyData.str))[ts.length]? = some d := by
      have := congrArg (·[0]?) er
      simp only [List.getElem?_cons_zero, List.getElem?_drop, Nat.add_zero] at this
      exact this.symm
    obtain ⟨e1, he1, rfl⟩ := enumL_get hd
    rw [List.getElem?_map, List.getElem?_eq_getElem hlt] at he1
    obtain rfl := Option.some.inj he1
    have hpl : ts.length < pl.length := by omega
    have ep : dIx (.list (pl.map fun q : Nat => PyData.int q)) (.int (ts.length : Nat)) = some (.int (pl[ts.length] : Nat)) := L2.atI_nat (by rw [List.getElem?_map, List.getElem?_eq_getElem hpl]; rfl)
    refine ⟨_, rfl, ?_⟩
    repeat walk_at "w"
    refine ⟨_, ep, ?_⟩
    repeat walk_at "w"
    refine w_ex (hR _ (by omega) (by omega) _) ?_
    rintro d2 c5 ⟨x, rfl, x0, x1⟩
    repeat walk_at "w"
    refine w_ex (hR _ (by omega) (by omega) _) ?_
    rintro d3 c6 ⟨y, rfl, w0, w1⟩
    repeat walk_at "w"
    refine w_ex (some_ok hR (by simp) (by simp) _) ?_
    rintro d4 c7 hd4
    obtain ⟨mm, rfl, m0, m1⟩ : ∃ mm : Int, d4 = .int mm ∧ 0 ≤ mm ∧ mm ≤ 60 := by
      rcases List.mem_cons.mp hd4 with rfl | hd4
      · exact ⟨0, rfl, by omega, by omega⟩
      rcases List.mem_cons.mp hd4 with rfl | hd4
      · exact ⟨x, rfl, by omega, by omega⟩
      obtain rfl := List.mem_singleton.mp hd4
      exact ⟨y, rfl, by omega, by omega⟩
    repeat walk_at "w"
    refine ⟨by rw [List.length_map]; omega, ts ++ [(ys[ts.length], ((pl[ts.length] : Nat) : Int), mm)], some (.int (ts.length : Nat)), some (.str ys[ts.length]), by rw [List.map_append]; rfl, ?_, ?_, by rw [List.length_append]; exact hlt, ?_, ?_, fun t ht => ?_⟩
    · rw [List.length_append, List.length_singleton, List.take_add_one, hd]
      rfl
    · rw [List.length_append, List.length_singleton]
      have := congrArg List.tail er
      rw [List.tail_cons, List.tail_drop] at this
      exact this
    · rw [List.length_append, List.length_singleton, List.map_append, h2, List.take_add_one, List.getElem?_eq_getElem hlt]
      rfl
    · rw [List.length_append, List.length_singleton, List.map_append, h3, List.take_add_one, List.getElem?_eq_getElem hpl, List.map_append]
      rfl
    · rcases List.mem_append.mp ht with ht | ht
      · exact h4 t ht
      · obtain rfl := List.mem_singleton.mp ht
        exact ⟨m0, m1⟩
  · rintro env c4 ⟨ts, z5, z6, rfl, e1, e2, h1, h2, h3, h4⟩
    have hts : ts.length = ys.length := by
      have := congrArg List.length e2
      rw [List.length_drop, enumL_len, List.length_map] at this
      simp at this
      omega
    rw [hts, List.take_length] at h2
    repeat walk_at "w"
    refine ⟨⟨by omega, fun t ht => ?_, by rw [h2]; exact y2, ?_⟩, by omega, fun t ht => (h4 t ht).2⟩
    · have hn : t.1 ∈ ys := by rw [← h2]; exact List.mem_map.mpr ⟨t, ht, rfl⟩
      have hp2 : t.2.1 ∈ (pl.take ts.length).map (fun q : Nat => (q : Int)) := by rw [← h3]; exact List.mem_map.mpr ⟨t, ht, rfl⟩
      obtain ⟨q, hq, e⟩ := List.mem_map.mp hp2
      have := pmem q (List.mem_of_mem_take hq)
      exact ⟨y3 _ hn, by omega, by omega, (h4 t ht).1, by have := (h4 t ht).2; omega⟩
    · rw [h3]
      show List.Pairwise _ _
      rw [List.pairwise_map]
      exact (pnd.sublist (List.take_sublist _ _)).imp fun {a b} hab e => hab (by omega)
/-! ## sights over towers, as lists -/
def pairsL (f : Tw → Tw → Bool) (g : Tw → Tw → D) : List Tw → List D
  | [] => []
  | t :: ts => (ts.filter (f t)).map (g t) ++ pairsL f g ts
theorem pairsK_cons {f : Tw → Tw → Bool} {g : Tw → Tw → D} {t : Tw} {ts : List Tw} : ∀ k, pairsK f g (t :: ts) (k + 1) = (ts.filter (f t)).map (g t) ++ pairsK f g ts k
  | 0 => by
    rw [pairsK, pairsK, pairsK, List.append_nil]
    rfl
  | k + 1 => by
    rw [pairsK, pairsK_cons k, List.append_assoc]
    rfl
theorem pairsK_eq {f : Tw → Tw → Bool} {g : Tw → Tw → D} : ∀ ts : List Tw, pairsK f g ts ts.length = pairsL f g ts
  | [] => rfl
  | t :: ts => by
    rw [List.length_cons, pairsK_cons, pairsK_eq ts]
    rfl
theorem pairsL_map {f f' : Tw → Tw → Bool} {g g' : Tw → Tw → D} {φ : Tw → Tw} : ∀ {ts : List Tw}, (∀ t ∈ ts, ∀ u ∈ ts, g' (φ t) (φ u) = g t u) → (ts.Pairwise fun t u => f' (φ t) (φ u) = f t u) → pairsL f' g' (ts.map φ) = pairsL f g ts
  | [], _, _ => rfl
  | t :: ts, hg, hf => by
    obtain ⟨h1, h2⟩ := List.pairwise_cons.mp hf
    rw [List.map_cons, pairsL, pairsL, pairsL_map (fun t ht u hu => hg t (List.mem_cons_of_mem _ ht) u (List.mem_cons_of_mem _ hu)) h2, List.filter_map, List.map_map]
    congr 1
    rw [show List.filter (f' (φ t) ∘ φ) ts = List.filter (f t) ts from List.filter_congr fun u hu => h1 u hu]
    exact List.map_congr_left fun u hu => hg t List.mem_cons_self u (List.mem_cons_of_mem _ (List.mem_filter.mp hu).1)
theorem mem_pairsL {f : Tw → Tw → Bool} {g : Tw → Tw → D} {d : D} : ∀ {ts : List Tw}, d ∈ pairsL f g ts ↔ ∃ t u, List.Sublist [t, u] ts ∧ f t u = true ∧ d = g t u
  | [] => ⟨fun h => (by cases h), fun ⟨t, u, h, _⟩ => (by cases h)⟩
  | t :: ts => by
    rw [pairsL, List.mem_append, mem_pairsL]
    constructor
    · rintro (h | ⟨t2, u, h, k, e⟩)
      · obtain ⟨u, hu, rfl⟩ := List.mem_map.mp h
        obtain ⟨h1, h2⟩ := List.mem_filter.mp hu
        exact ⟨t, u, (List.singleton_sublist.mpr h1).cons_cons t, h2, rfl⟩
      · exact ⟨t2, u, h.cons t, k, e⟩
    · rintro ⟨t2, u, h, k, e⟩
      cases h with
      | cons _ h => exact .inr ⟨t2, u, h, k, e⟩
      | cons_cons _ h => exact .inl (List.mem_map.mpr ⟨u, List.mem_filter.mpr ⟨List.singleton_sublist.mp h, k⟩, e.symm⟩)
theorem two_sub {ts : List Tw} {t u : Tw} (h : t ∈ ts) (k : u ∈ ts) (ne : t ≠ u) : List.Sublist [t, u] ts ∨ List.Sublist [u, t] ts := by
  induction ts with
  | nil => cases h
  | cons v ts ih =>
    rcases List.mem_cons.mp h with e1 | h1
    · rcases List.mem_cons.mp k with e2 | k1
      · exact absurd (e1.trans e2.symm) ne
      · subst e1
        exact .inl ((List.singleton_sublist.mpr k1).cons_cons _)
    · rcases List.mem_cons.mp k with e2 | k1
      · subst e2
        exact .inr ((List.singleton_sublist.mpr h1).cons_cons _)
      · rcases ih h1 k1 with h | h
        · exact .inl (h.cons _)
        · exact .inr (h.cons _)
theorem pairsL_len {f : Tw → Tw → Bool} {g : Tw → Tw → D} (ts : List Tw) : (pairsL f g ts).length ≤ ts.length * ts.length := by
  rw [← pairsK_eq]
  exact pairsK_len f g ts ts.length
/-- names part towers -/
theorem tok_name {n : Nat} {ts : List Tw} {t u : Tw} (h : TOk n ts) (ht : t ∈ ts) (hu : u ∈ ts) (e : t.1 = u.1) : t = u := by
  have nd := tok_nodup h
  have := filter_key nd hu
  have hm : t ∈ ts.filter fun v => decide (v.1 = u.1) := List.mem_filter.mpr ⟨ht, decide_eq_true e⟩
  rw [this] at hm
  exact List.mem_singleton.mp hm
theorem tok_sub {n : Nat} {ts : List Tw} {t u : Tw} (h : TOk n ts) (s : List.Sublist [t, u] ts) : t ∈ ts ∧ u ∈ ts ∧ t.1 ≠ u.1 ∧ t.2.1 ≠ u.2.1 := by
  have m1 := s.subset (show t ∈ [t, u] by simp)
  have m2 := s.subset (show u ∈ [t, u] by simp)
  have p1 := (tok_nodup h).sublist (s.map (·.1))
  have p2 := h.2.2.2.sublist (s.map (·.2.1))
  exact ⟨m1, m2, fun e => (List.nodup_cons.mp p1).1 (by show t.1 ∈ [u.1]; rw [e]; simp), fun e => (List.nodup_cons.mp p2).1 (by show t.2.1 ∈ [u.2.1]; rw [e]; simp)⟩
theorem tok_pairwise {n : Nat} {ts : List Tw} {R : Tw → Tw → Prop} (h : TOk n ts) (r : ∀ t ∈ ts, ∀ u ∈ ts, t.2.1 ≠ u.2.1 → R t u) : ts.Pairwise R := by
  have p : ts.Pairwise fun t u => t.2.1 ≠ u.2.1 := List.pairwise_map.mp h.2.2.2
  exact p.imp_of_mem fun {a b} ha hb hab => r a ha b hb hab
theorem tok_sublist {n : Nat} {ts us : List Tw} (h : TOk n ts) (s : us.Sublist ts) : TOk n us :=
  ⟨Nat.le_trans s.length_le h.1, fun t ht => h.2.1 t (s.subset ht), h.2.2.1.sublist (s.map _), h.2.2.2.sublist (s.map _)⟩
theorem sightsL_ok {hs : List Int} {ts : List Tw} (h : COk hs) (k : TOk hs.length ts) (cp : Cup) : m_sights [C hs, TT ts] cp = .ok (.tuple (pairsL (openTw hs) pairD ts)) cp := by
  rw [sights_ok h k, pairsK_eq]
theorem sight_pairsL_ok {hs : List Int} {ts : List Tw} (hl : hs.length ≤ 200) (k : TOk hs.length ts) (cp : Cup) : m_sight_pairs [C hs, TT ts] cp = .ok (.list (pairsL (openTw hs) pairD ts)) cp := by
  rw [sight_pairs_ok hl k, pairsK_eq]
/-! sights by products -/
def Dab (i j : Nat) : Int := (((i : Int) - j).natAbs : Int)
theorem Dab_ge {i j : Nat} (h : j ≤ i) : Dab i j = (i : Int) - j := by unfold Dab; omega
theorem Dab_le {i j : Nat} (h : i ≤ j) : Dab i j = (j : Int) - i := by unfold Dab; omega
def SeeG (hs : List Int) (a b : Nat) (x y : Int) : Prop := ∀ p : Nat, min a b < p → p < max a b → hs.getD p 0 * Dab b a < x * Dab b p + y * Dab p a
theorem see_iff {hs : List Int} {a b : Nat} {x y : Int} (h : a ≠ b) : seeB hs a b x y = true ↔ SeeG hs a b x y := by
  unfold seeB SeeG
  by_cases hab : a < b
  · rw [if_pos hab, List.all_eq_true, Nat.min_eq_left (by omega), Nat.max_eq_right (by omega)]
    refine ⟨fun k p h1 h2 => ?_, fun k p hp => ?_⟩
    · have := k p (mem_mids.mpr ⟨h1, h2⟩)
      unfold barAt at this
      simp only [Bool.not_eq_true', decide_eq_false_iff_not] at this
      rw [Dab_ge (i := b) (j := a) (by omega), Dab_ge (i := b) (j := p) (by omega), Dab_ge (i := p) (j := a) (by omega)]
      omega
    · obtain ⟨h1, h2⟩ := mem_mids.mp hp
      have := k p h1 h2
      rw [Dab_ge (i := b) (j := a) (by omega), Dab_ge (i := b) (j := p) (by omega), Dab_ge (i := p) (j := a) (by omega)] at this
      unfold barAt
      simp only [Bool.not_eq_true', decide_eq_false_iff_not]
      omega
  · rw [if_neg hab, List.all_eq_true, Nat.min_eq_right (by omega), Nat.max_eq_left (by omega)]
    refine ⟨fun k p h1 h2 => ?_, fun k p hp => ?_⟩
    · have := k p (mem_mids.mpr ⟨h1, h2⟩)
      unfold barAt at this
      simp only [Bool.not_eq_true', decide_eq_false_iff_not] at this
      rw [Dab_le (i := b) (j := a) (by omega), Dab_le (i := b) (j := p) (by omega), Dab_le (i := p) (j := a) (by omega)]
      omega
    · obtain ⟨h1, h2⟩ := mem_mids.mp hp
      have := k p h1 h2
      rw [Dab_le (i := b) (j := a) (by omega), Dab_le (i := b) (j := p) (by omega), Dab_le (i := p) (j := a) (by omega)] at this
      unfold barAt
      simp only [Bool.not_eq_true', decide_eq_false_iff_not]
      omega
theorem see_of {hs hs' : List Int} {a b a' b' : Nat} {x y x' y' : Int} (h : a ≠ b) (h' : a' ≠ b') (k : SeeG hs a b x y ↔ SeeG hs' a' b' x' y') : seeB hs a b x y = seeB hs' a' b' x' y' :=
  Bool.eq_iff_iff.mpr ((see_iff h).trans (k.trans (see_iff h').symm))
theorem see_symm {hs : List Int} {a b : Nat} {x y : Int} (h : a ≠ b) : seeB hs a b x y = seeB hs b a y x := by
  unfold seeB
  by_cases hab : a < b
  · rw [if_pos hab, if_neg (by omega)]
  · rw [if_neg hab, if_pos (by omega)]
theorem open_symm {hs : List Int} {t u : Tw} (h : t.2.1.toNat ≠ u.2.1.toNat) : openTw hs t u = openTw hs u t := see_symm h
/-! pairs of names -/
theorem eqv_pair {a b c d : Str} : PyData.eqv (.tuple [.str a, .str b]) (.tuple [.str c, .str d]) = (decide (a = c) && decide (b = d)) := by
  rw [← eqv_ss, ← eqv_ss]
  simp only [PyData.eqv, PyData.eqvAll, Bool.and_true]
theorem any_pairs {f : Tw → Tw → Bool} {n : Nat} {ts : List Tw} {t u : Tw} (k : TOk n ts) (ht : t ∈ ts) (hu : u ∈ ts) : ((pairsL f pairD ts).any fun z => PyData.eqv z (pairD t u)) = true ↔ List.Sublist [t, u] ts ∧ f t u = true := by
  rw [List.any_eq_true]
  constructor
  · rintro ⟨z, hz, e⟩
    obtain ⟨t2, u2, s, hf, rfl⟩ := mem_pairsL.mp hz
    obtain ⟨m1, m2, _⟩ := tok_sub k s
    rw [show PyData.eqv (pairD t2 u2) (pairD t u) = (decide (t2.1 = t.1) && decide (u2.1 = u.1)) from eqv_pair, Bool.and_eq_true, decide_eq_true_iff, decide_eq_true_iff] at e
    have e1 := tok_name k m1 ht e.1
    have e2 := tok_name k m2 hu e.2
    subst e1 e2
    exact ⟨s, hf⟩
  · rintro ⟨s, hf⟩
    exact ⟨pairD t u, mem_pairsL.mpr ⟨t, u, s, hf, rfl⟩, by rw [show PyData.eqv (pairD t u) (pairD t u) = (decide (t.1 = t.1) && decide (u.1 = u.1)) from eqv_pair, decide_eq_true rfl, decide_eq_true rfl]; rfl⟩
theorem lay_pair {t u : Tw} (h : nameOk t.1) (k : nameOk u.1) : (pairD t u).canLay0 = true ∧ (pairD t u).depth ≤ 1 := by
  refine lay_tuple fun d hd => ?_
  rcases List.mem_cons.mp hd with rfl | hd
  · exact lay_str h.1
  · obtain rfl := List.mem_singleton.mp hd
    exact lay_str k.1
theorem lay_pairs {f : Tw → Tw → Bool} {n : Nat} {ts : List Tw} (k : TOk n ts) : ∀ d ∈ pairsL f pairD ts, d.canLay0 = true ∧ d.depth ≤ 1 := fun d hd => by
  obtain ⟨t, u, s, _, rfl⟩ := mem_pairsL.mp hd
  obtain ⟨m1, m2, _⟩ := tok_sub k s
  exact lay_pair (k.2.1 t m1).1 (k.2.1 u m2).1
theorem gd_pairsL {f : Tw → Tw → Bool} {n : Nat} {ts : List Tw} (k : TOk n ts) (j : Nat) : gd (j + 3) (.tuple (pairsL f pairD ts)) := by
  refine ⟨?_, fun d hd => ?_⟩
  · have h1 := pairsL_len (f := f) (g := pairD) ts
    have h2 : ts.length * ts.length ≤ 24 * 24 := Nat.mul_le_mul k.1 k.1
    omega
  · obtain ⟨t, u, s, _, rfl⟩ := mem_pairsL.mp hd
    obtain ⟨m1, m2, _⟩ := tok_sub k s
    exact gd_t2 (k := j + 1) (k.2.1 t m1).1.1 (k.2.1 u m2).1.1
theorem shp_pair {t u : Tw} (h : nameOk t.1) (k : nameOk u.1) : shp (pairD t u) = true := by
  refine shp_tuple fun d hd => ?_
  rcases List.mem_cons.mp hd with rfl | hd
  · exact ⟨(lay_str h.1).1, by have := (lay_str h.1).2; omega⟩
  · obtain rfl := List.mem_singleton.mp hd
    exact ⟨(lay_str k.1).1, by have := (lay_str k.1).2; omega⟩
theorem in_pairs {f : Tw → Tw → Bool} {n : Nat} {ts : List Tw} {t u : Tw} (k : TOk n ts) (ht : t ∈ ts) (hu : u ∈ ts) : dIn (pairD t u) (.list (pairsL f pairD ts)) = some (.bool ((pairsL f pairD ts).any fun z => PyData.eqv z (pairD t u))) := by
  show (if (shp (pairD t u) && shp (.list (pairsL f pairD ts))) = true then some (PyData.bool ((pairsL f pairD ts).any fun z => PyData.eqv z (pairD t u))) else none) = _
  rw [if_pos (by rw [shp_pair (k.2.1 t ht).1 (k.2.1 u hu).1, shp_list fun d hd => ⟨(lay_pairs k d hd).1, by have := (lay_pairs k d hd).2; omega⟩]; rfl)]
theorem in_pairsT {f : Tw → Tw → Bool} {n : Nat} {ts : List Tw} {t u : Tw} (k : TOk n ts) (ht : t ∈ ts) (hu : u ∈ ts) : dIn (pairD t u) (.tuple (pairsL f pairD ts)) = some (.bool ((pairsL f pairD ts).any fun z => PyData.eqv z (pairD t u))) := by
  show (if (shp (pairD t u) && shp (.tuple (pairsL f pairD ts))) = true then some (PyData.bool ((pairsL f pairD ts).any fun z => PyData.eqv z (pairD t u))) else none) = _
  rw [if_pos (by rw [shp_pair (k.2.1 t ht).1 (k.2.1 u hu).1, shp_tuple fun d hd => ⟨(lay_pairs k d hd).1, by have := (lay_pairs k d hd).2; omega⟩]; rfl)]
end MP.SI
namespace MP.SI
open PySem MP MP.SI
local macro_rules | `(tactic| walk_at "w") => `(tactic| first
  | with_reducible refine w_seq ?_
  | with_reducible refine w_set ?_
  | with_reducible refine w_ret ?_
  | with_reducible refine w_cons ?_
  | with_reducible refine w_nil ?_
  | with_reducible refine w_c ?_
  | ((with_reducible refine' w_nm ?hnm ?_); (case hnm => exact rfl))
  | with_reducible refine w_bin ?_
  | with_reducible refine w_b ?_
  | with_reducible refine w_not ?_
  | with_reducible refine w_and ?_
  | with_reducible refine w_or ?_
  | with_reducible refine w_if ?_
  | with_reducible refine w_sif ?_
  | with_reducible refine w_chn ?_
  | with_reducible refine w_call ?_
  | with_reducible refine w_ca ?_
  | with_reducible refine w_tup ?_
  | with_reducible refine w_lst ?_
  | with_reducible refine w_isi ?_
  | with_reducible refine w_drop ?_
  | with_reducible refine w_snil ?_
  | with_reducible refine w_par ?_
  | with_reducible refine w_asg ?_
  | with_reducible refine w_for ?_
  | with_reducible refine w_lc ?_
  | with_reducible refine w_it ?_
  | with_reducible refine w_zip ?_
  | with_reducible refine w_enum ?_
  | with_reducible refine w_sl2 ?_
  | with_reducible refine w_eoN ?_
  | with_reducible refine w_eoS ?_
  | with_reducible refine w_me ?_
  | with_reducible refine w_rev ?_
  | ((with_reducible refine' w_app ?hap ?_); (case hap => exact rfl))
  | ((with_reducible refine' w_augI ?hap ?_); (case hap => exact rfl))
  | with_reducible refine w_rg1 ?_
  | with_reducible refine w_rg2 ?_
  | with_reducible refine w_scup ?_
  | with_reducible refine w_cup ?_
  | with_reducible refine w_neg ?_
  | with_reducible refine w_mean ?_
  | with_reducible refine ⟨_, dLt_ii, ?_⟩
  | with_reducible refine ⟨_, dGt_ii, ?_⟩
  | with_reducible refine ⟨_, dLe_ii, ?_⟩
  | with_reducible refine ⟨_, dGe_ii, ?_⟩
  | with_reducible refine ⟨_, dEq_ii, ?_⟩
  | with_reducible refine ⟨_, dNe_ii, ?_⟩
  | with_reducible refine ⟨_, dLe_ii, fun _ => ?_, fun _ => ?_⟩
  | with_reducible refine ⟨_, dLt_ii, fun _ => ?_, fun _ => ?_⟩
  | with_reducible refine ⟨_, dAdd_ii, ?_⟩
  | with_reducible refine ⟨_, dSub_ii, ?_⟩
  | with_reducible refine ⟨_, isi_int_int, ?_⟩
  | with_reducible refine ⟨_, isi_int_bool, ?_⟩
  | with_reducible refine ⟨_, isi_int_str, ?_⟩
  | with_reducible refine ⟨_, isi_int_tuple, ?_⟩
  | with_reducible refine ⟨_, isi_tuple_int, ?_⟩
  | with_reducible refine ⟨_, isi_tuple_bool, ?_⟩
  | with_reducible refine ⟨_, isi_tuple_str, ?_⟩
  | with_reducible refine ⟨_, isi_tuple_tuple, ?_⟩
  | with_reducible refine ⟨_, isi_str_int, ?_⟩
  | with_reducible refine ⟨_, isi_str_bool, ?_⟩
  | with_reducible refine ⟨_, isi_str_str, ?_⟩
  | with_reducible refine ⟨_, isi_str_tuple, ?_⟩
  | with_reducible refine ⟨_, isi_bool_int, ?_⟩
  | with_reducible refine ⟨_, isi_bool_bool, ?_⟩
  | with_reducible refine ⟨_, isi_bool_str, ?_⟩
  | with_reducible refine ⟨_, isi_bool_tuple, ?_⟩
  | with_reducible refine ⟨_, isi_none_int, ?_⟩
  | with_reducible refine ⟨_, isi_none_bool, ?_⟩
  | with_reducible refine ⟨_, isi_none_str, ?_⟩
  | with_reducible refine ⟨_, isi_none_tuple, ?_⟩
  | with_reducible refine ⟨_, isi_list_int, ?_⟩
  | with_reducible refine ⟨_, isi_list_bool, ?_⟩
  | with_reducible refine ⟨_, isi_list_str, ?_⟩
  | with_reducible refine ⟨_, isi_list_tuple, ?_⟩
  | with_reducible refine ⟨true, rfl, fun _ => ?_, fun h => absurd h (by decide)⟩
  | with_reducible refine ⟨false, rfl, fun h => absurd h (by decide), fun _ => ?_⟩
  | with_reducible refine ⟨_, rfl, fun hb => ?_, fun hb => ?_⟩
  | with_reducible refine ⟨_, rfl, ?_⟩
  | with_reducible refine ⟨fun hb => ?_, fun hb => ?_⟩
  | with_reducible exact ⟨rfl, rfl⟩
  | with_reducible refine ⟨(rfl : isLst _ = true), ?_⟩)
/-! ## who sees whom -/
def gDoSee : Mean := mean false 6
  (sSeq (sDrop (eCall m_need_towers (eCons (eNm 0) (eCons (eNm 1) eNil))))
  (sSeq (sPar [4, 5] (eCons (eCall m_tower_in (eCons (eNm 1) (eCons (eNm 2) eNil))) (eCons (eCall m_tower_in (eCons (eNm 1) (eCons (eNm 3) eNil))) eNil)))
  (sRet (eAnd (eBin dNe (eNm 4) (eNm 5)) (eCall m_is_open (eCons (eNm 0) (eCons (eCall m_top_in (eCons (eNm 0) (eCons (eNm 4) eNil))) (eCons (eCall m_top_in (eCons (eNm 0) (eCons (eNm 5) eNil))) eNil))))))))
def gSeenBy : Mean := mean false 5
  (sSeq (sDrop (eCall m_need_towers (eCons (eNm 0) (eCons (eNm 1) eNil))))
  (sSeq (sDrop (eCall m_tower_in (eCons (eNm 1) (eCons (eNm 2) eNil))))
  (sSeq (sSet 3 (eCall m_sight_pairs (eCons (eNm 0) (eCons (eNm 1) eNil))))
  (sRet (eCa bTuple (eCons (eLc [4] (gNm 4) (eIt (eNm 1)) (eOr (eB (eBin dIn (eTup (eCons (eNm 2) (eCons (eBin dIx (eNm 4) (eC (.int 0))) eNil))) (eNm 3))) (eB (eBin dIn (eTup (eCons (eBin dIx (eNm 4) (eC (.int 0))) (eCons (eNm 2) eNil))) (eNm 3)))) (eBin dIx (eNm 4) (eC (.int 0)))) eNil))))))
theorem shp_tw {t : Tw} (h : nameOk t.1) : shp (tw t) = true := by
  have := lay_tw (t := t) h
  refine shp_tuple fun d hd => ?_
  rcases List.mem_cons.mp hd with rfl | hd
  · exact ⟨(lay_str h.1).1, by have := (lay_str h.1).2; omega⟩
  rcases List.mem_cons.mp hd with rfl | hd
  · exact ⟨rfl, Nat.zero_le _⟩
  · obtain rfl := List.mem_singleton.mp hd
    exact ⟨rfl, Nat.zero_le _⟩
theorem eqv_tw {t u : Tw} : PyData.eqv (tw t) (tw u) = (decide (t.1 = u.1) && (decide (t.2.1 = u.2.1) && decide (t.2.2 = u.2.2))) := by
  rw [← eqv_ss, ← eqv_ii, ← eqv_ii]
  simp only [PyData.eqv, PyData.eqvAll, Bool.and_true]
theorem dNe_tw {n : Nat} {ts : List Tw} {t u : Tw} (k : TOk n ts) (ht : t ∈ ts) (hu : u ∈ ts) : dNe (tw t) (tw u) = some (.bool (decide (t.1 ≠ u.1))) := by
  unfold dNe
  rw [if_pos (by rw [shp_tw (k.2.1 t ht).1, shp_tw (k.2.1 u hu).1]; rfl), eqv_tw]
  by_cases e : t.1 = u.1
  · have := tok_name k ht hu e
    subst this
    rw [decide_eq_true rfl, decide_eq_true rfl, decide_eq_true rfl, decide_eq_false (by simp)]
    rfl
  · rw [decide_eq_false e, decide_eq_true (show t.1 ≠ u.1 from e)]
    rfl
theorem tok_place {n : Nat} {ts : List Tw} {t u : Tw} (k : TOk n ts) (ht : t ∈ ts) (hu : u ∈ ts) (e : t.1 ≠ u.1) : t.2.1.toNat ≠ u.2.1.toNat := by
  have h1 := (k.2.1 t ht).2.1
  have h2 := (k.2.1 u hu).2.1
  rcases two_sub ht hu (fun z => e (by rw [z])) with s | s
  · have := (tok_sub k s).2.2.2
    omega
  · have := (tok_sub k s).2.2.2
    omega
theorem do_see_ok {hs : List Int} {ts : List Tw} {t u : Tw} (h : COk hs) (k : TOk hs.length ts) (ht : t ∈ ts) (hu : u ∈ ts) (cp : Cup) : gDoSee [C hs, TT ts, .str t.1, .str u.1] cp = .ok (.bool (decide (t.1 ≠ u.1) && openTw hs t u)) cp := by
  have t1 := k.2.1 t ht
  have u1 := k.2.1 u hu
  refine wp_of ?_
  unfold gDoSee
  repeat walk_at "w"
  refine w_eq (need_towers_ok h k _) ?_
  repeat walk_at "w"
  refine w_eq (tower_in_ok k ht _) ?_
  repeat walk_at "w"
  refine w_eq (tower_in_ok k hu _) ?_
  repeat walk_at "w"
  refine ⟨_, dNe_tw k ht hu, ?_⟩
  by_cases e : t.1 = u.1
  · rw [decide_eq_false (by simpa using e), Bool.false_and]
    repeat walk_at "w"
  · rw [decide_eq_true (by simpa using e), Bool.true_and]
    repeat walk_at "w"
    refine w_eq (top_tw t1.2.1 t1.2.2.1 _) ?_
    repeat walk_at "w"
    refine w_eq (top_tw u1.2.1 u1.2.2.1 _) ?_
    repeat walk_at "w"
    exact w_eq (is_open_ne (by omega) (by omega) h.2.1 (tok_place k ht hu e) _) ⟨rfl, rfl⟩
def seesB (hs : List Int) (t u : Tw) : Bool := decide (u.1 ≠ t.1) && openTw hs t u
theorem sees_any {hs : List Int} {ts : List Tw} {t u : Tw} (k : TOk hs.length ts) (ht : t ∈ ts) (hu : u ∈ ts) : (((pairsL (openTw hs) pairD ts).any fun z => PyData.eqv z (pairD t u)) || ((pairsL (openTw hs) pairD ts).any fun z => PyData.eqv z (pairD u t))) = seesB hs t u := by
  refine Bool.eq_iff_iff.mpr ?_
  unfold seesB
  rw [Bool.or_eq_true, any_pairs k ht hu, any_pairs k hu ht, Bool.and_eq_true, decide_eq_true_iff]
  constructor
  · rintro (⟨s, hf⟩ | ⟨s, hf⟩)
    · exact ⟨fun e => (tok_sub k s).2.2.1 e.symm, hf⟩
    · exact ⟨(tok_sub k s).2.2.1, by rw [open_symm (tok_place k ht hu (Ne.symm (tok_sub k s).2.2.1))]; exact hf⟩
  · rintro ⟨ne, hf⟩
    rcases two_sub ht hu (fun z => ne (by rw [z])) with s | s
    · exact .inl ⟨s, hf⟩
    · exact .inr ⟨s, by rw [open_symm (tok_place k hu ht ne)]; exact hf⟩
theorem seen_by_ok {hs : List Int} {ts : List Tw} {t : Tw} (h : COk hs) (k : TOk hs.length ts) (ht : t ∈ ts) (cp : Cup) : gSeenBy [C hs, TT ts, .str t.1] cp = .ok (.tuple ((ts.filter (seesB hs t)).map fun u => .str u.1)) cp := by
  refine wp_of ?_
  unfold gSeenBy
  repeat walk_at "w"
  refine w_eq (need_towers_ok h k _) ?_
  repeat walk_at "w"
  refine w_eq (tower_in_ok k ht _) ?_
  repeat walk_at "w"
  refine w_eq (sight_pairsL_ok h.2.1 k _) ?_
  repeat walk_at "w"
  refine w_eq (lcGo_mapP (l := ts) (tt := seesB hs t) (ee := fun u => .str u.1) fun u hu => ⟨_, rfl, fun cp => ⟨wp_of ?_, fun _ => wp_of ?_⟩⟩) ?_
  · repeat walk_at "w"
    refine ⟨_, in_pairs k ht hu, ?_⟩
    have e := sees_any k ht hu
    cases e1 : (pairsL (openTw hs) pairD ts).any fun z => PyData.eqv z (pairD t u) with
    | true =>
      rw [e1, Bool.true_or] at e
      rw [← e]
      repeat walk_at "w"
    | false =>
      rw [e1, Bool.false_or] at e
      rw [← e]
      repeat walk_at "w"
      refine ⟨_, in_pairs k hu ht, ?_⟩
      repeat walk_at "w"
  · repeat walk_at "w"
  repeat walk_at "w"
/-! small readings -/
def revD : D → Option D
  | .list ds => some (.list ds.reverse)
  | .tuple ds => some (.tuple ds.reverse)
  | _ => none
theorem w_rv {f : Ev} {env : MP.Env} {cp : Cup} {P : D → Cup → Prop} (h : Wp (f env cp) fun d c => ∃ e, revD d = some e ∧ P e c) : Wp (eRv f env cp) P := w_bind (w_ex h fun d c ⟨e, e1, q⟩ => by
  cases d <;> cases e1 <;> exact ⟨q⟩)
theorem tup_nil {l : List D} : PyData.eqv (.tuple l) (.tuple []) = l.isEmpty := by
  cases l <;> rfl
theorem dNe_nilT {l : List D} (h : ∀ d ∈ l, d.canLay0 = true ∧ d.depth ≤ 63) : dNe (.tuple l) (.tuple []) = some (.bool (!l.isEmpty)) := by
  unfold dNe
  rw [if_pos (by rw [shp_tuple h]; rfl), tup_nil]
theorem dNe_towers {n : Nat} {ts : List Tw} (k : TOk n ts) : dNe (TT ts) (.tuple []) = some (.bool (!ts.isEmpty)) := by
  rw [dNe_nilT fun d hd => by
    obtain ⟨t, ht, rfl⟩ := List.mem_map.mp hd
    exact ⟨(lay_tw (k.2.1 t ht).1).1, by have := (lay_tw (k.2.1 t ht).1).2; omega⟩, List.isEmpty_map]
theorem enum_ints {hs : List Int} : enumL (hs.map .int) = (List.range hs.length).map fun i : Nat => .tuple [.int i, .int (hs.getD i 0)] := by
  unfold enumL
  apply List.ext_getElem?
  intro i
  rw [List.getElem?_mapIdx, List.getElem?_map, List.getElem?_map]
  by_cases h : i < hs.length
  · rw [getD_some h, List.getElem?_range h]
    rfl
  · rw [List.getElem?_eq_none (by omega), List.getElem?_eq_none (by rw [List.length_range]; omega)]
    rfl
theorem any_ints {l : List Int} {i : Int} : ((l.map PyData.int).any fun z => PyData.eqv z (.int i)) = l.any fun j => decide (j = i) := by
  rw [List.any_map]
  refine congrArg (fun p => l.any p) (funext fun j => ?_)
  exact eqv_ii
theorem notin_ints {l : List Int} {i : Int} : dNotIn (.int i) (.list (l.map .int)) = some (.bool (!l.any fun j => decide (j = i))) := by
  have : dIn (.int i) (.list (l.map .int)) = some (.bool (l.any fun j => decide (j = i))) := by
    show (if (shp (.int i) && shp (.list (l.map PyData.int))) = true then some (PyData.bool ((l.map PyData.int).any fun z => PyData.eqv z (.int i))) else none) = _
    rw [if_pos (by rw [shp_list fun d hd => by obtain ⟨j, _, rfl⟩ := List.mem_map.mp hd; exact ⟨rfl, Nat.zero_le _⟩]; rfl), any_ints]
  unfold dNotIn
  rw [this]
theorem in_strs {l : List Str} {x : Str} (h : PyData.strOk x = true) (k : ∀ y ∈ l, PyData.strOk y = true) : dIn (.str x) (.list (l.map .str)) = some (.bool (decide (x ∈ l))) := by
  show (if (shp (.str x) && shp (.list (l.map PyData.str))) = true then some (PyData.bool ((l.map PyData.str).any fun z => PyData.eqv z (.str x))) else none) = _
  rw [if_pos (by rw [shp_str h, shp_list fun d hd => by obtain ⟨j, hj, rfl⟩ := List.mem_map.mp hd; exact ⟨(lay_str (k j hj)).1, by have := (lay_str (k j hj)).2; omega⟩]; rfl)]
  congr 2
  refine Bool.eq_iff_iff.mpr ?_
  rw [List.any_map, List.any_eq_true, decide_eq_true_iff]
  constructor
  · rintro ⟨y, hy, e⟩
    have e : PyData.eqv (.str y) (.str x) = true := e
    rw [eqv_ss, decide_eq_true_iff] at e
    exact e ▸ hy
  · intro hx
    exact ⟨x, hx, by show PyData.eqv (.str x) (.str x) = true; rw [eqv_ss, decide_eq_true rfl]⟩
end MP.SI
namespace MP
open PySem PySem.Spec PyProof.Rows L2

/-! ## dicts -/
def putD (kvs : List (Key × D)) (k : Key) (d : D) : List (Key × D) :=
  if (kvs.any fun kv => decide (kv.1 = k)) = true then kvs.map (fun kv => if kv.1 = k then (kv.1, d) else kv) else kvs ++ [(k, d)]
def mrgD (kvs more : List (Key × D)) : List (Key × D) := more.foldl (fun acc kv => putD acc kv.1 kv.2) kvs
def toDs (kvs : List (Key × D)) : List (D × D) := kvs.map fun p => (keyD p.1, p.2)
abbrev KR (K : MpK) (F : Hp) : List (Key × V) → List (Key × D) → Prop := Paired fun (p : Key × V) (q : Key × D) => p.1 = q.1 ∧ Rp K F p.2 q.2
section
variable {K : MpK} {F : Hp}
theorem KR.any (k : Key) : ∀ {kvs : List (Key × V)} {ds : List (Key × D)}, KR K F kvs ds → (kvs.any fun kv => decide (kv.1 = k)) = ds.any fun kv => decide (kv.1 = k)
  | _, _, .nil => rfl
  | _, _, .cons h t => by
    rw [List.any_cons, List.any_cons, KR.any k t, h.1]
theorem KR.repl {k : Key} {v : V} {d : D} (r : Rp K F v d) : ∀ {kvs : List (Key × V)} {ds : List (Key × D)}, KR K F kvs ds → KR K F (kvs.map fun kv => if kv.1 = k then (kv.1, v) else kv) (ds.map fun kv => if kv.1 = k then (kv.1, d) else kv)
  | _, _, .nil => .nil
  | p :: _, q :: _, .cons h t => by
    rw [List.map_cons, List.map_cons]
    refine .cons ?_ (KR.repl r t)
    by_cases e : p.1 = k
    · rw [if_pos e, if_pos (h.1 ▸ e)]
      exact ⟨h.1, r⟩
    · rw [if_neg e, if_neg (h.1 ▸ e)]
      exact h
theorem KR.snoc {k : Key} {v : V} {d : D} (r : Rp K F v d) : ∀ {kvs : List (Key × V)} {ds : List (Key × D)}, KR K F kvs ds → KR K F (kvs ++ [(k, v)]) (ds ++ [(k, d)])
  | _, _, .nil => .cons ⟨rfl, r⟩ .nil
  | _, _, .cons h t => .cons h (KR.snoc r t)
theorem KR.put {k : Key} {v : V} {d : D} (r : Rp K F v d) {kvs : List (Key × V)} {ds : List (Key × D)} (h : KR K F kvs ds) : KR K F (putK kvs k v) (putD ds k d) := by
  unfold putK putD
  rw [h.any k]
  split
  · exact KR.repl r h
  · exact KR.snoc r h
theorem KR.mrg : ∀ {more : List (Key × V)} {mo : List (Key × D)} {kvs : List (Key × V)} {ds : List (Key × D)}, KR K F more mo → KR K F kvs ds → KR K F (mergeK kvs more) (mrgD ds mo)
  | _, _, _, _, .nil, h => h
  | (k, v) :: more, (k2, d) :: mo, kvs, ds, .cons q t, h => by
    obtain ⟨rfl, r⟩ := q
    exact KR.mrg (kvs := putK kvs k v) (ds := putD ds k d) t (KR.put r h)
theorem KR.rp : ∀ {kvs : List (Key × V)} {ds : List (Key × D)}, KR K F kvs ds → RpK K F kvs (toDs ds)
  | _, _, .nil => .nil
  | (k, v) :: _, (k2, d) :: _, .cons q t => by
    obtain ⟨rfl, r⟩ := q
    exact .cons r (KR.rp t)
end
def pairOf : D → Option (Key × D)
  | .tuple [k, d] => (keyOf k).map (·, d)
  | _ => none
def prsOf : List D → Option (List (Key × D))
  | [] => some []
  | d :: ds => match pairOf d, prsOf ds with
    | some p, some ps => some (p :: ps)
    | _, _ => none
theorem prs_rp {K : MpK} {F : Hp} : ∀ {ds : List D} {prs : List (Key × D)} {vs : List V}, RpA K F vs ds → prsOf ds = some prs → ∃ (ps : List Addr) (kvs : List (Key × V)), vs = ps.map V.ref ∧ Paired (fun p kv => SqT K F p [kV kv.1, kv.2]) ps kvs ∧ KR K F kvs prs
  | [], _, _, .nil, e => by
    cases e
    exact ⟨[], [], rfl, .nil, .nil⟩
  | d :: ds, prs, _, .cons h t, e => by
    unfold prsOf at e
    cases e1 : pairOf d with
    | none => rw [e1] at e; cases e
    | some p =>
      rw [e1] at e
      cases e2 : prsOf ds with
      | none => rw [e2] at e; cases e
      | some ps2 =>
        rw [e2] at e
        cases e
        obtain ⟨ps, kvs, rfl, h2, h3⟩ := prs_rp t e2
        unfold pairOf at e1
        split at e1
        · rename_i k dd
          cases e3 : keyOf k with
          | none => rw [e3] at e1; cases e1
          | some κ =>
            rw [e3] at e1
            cases e1
            obtain rfl := keyD_of e3
            obtain ⟨a, ws, rfl, h4, h5, h6⟩ := h.tupI
            cases h6 with
            | cons q1 r1 =>
              cases r1 with
              | cons q2 r2 =>
                cases r2
                obtain rfl := q1.key
                exact ⟨a :: ps, (κ, _) :: kvs, rfl, .cons h4 h2, .cons ⟨rfl, q2⟩ h3⟩
        · cases e1
theorem paired_imp {α β : Type} {R S : α → β → Prop} (h : ∀ a b, R a b → S a b) : ∀ {xs : List α} {ys : List β}, Paired R xs ys → Paired S xs ys
  | _, _, .nil => .nil
  | _, _, .cons q t => .cons (h _ _ q) (paired_imp h t)
theorem fr_newD {c : Addr} {W : Addr → Prop} {K : MpK} {F H : Hp} {p : Addr} {kvs : List (Key × V)} {ds : List (D × D)} (st : Sit c W F H) (hp : H p = none) (r : RpK K F kvs ds) : Fr K H F (upd H p (.dK kvs)) (.ref p) (.dict ds) :=
  .inr ⟨p, rfl, hp, st.free hp, .inl ⟨kvs, upd_same, r⟩⟩
def bDict : List D → Option D
  | [.list ds] => (prsOf ds).map fun ps => .dict (toDs (mrgD [] ps))
  | _ => none
section
variable {X : Cx}
theorem cas_dictP (hc : X.calm = true) : CaS X (.type "dict") bDict := by
  refine ⟨_, call_dictP hc, fun c W F H xs ds d Q st r e q => ?_⟩
  match ds, e with
  | [.list ds], e =>
    have ro := r.one; clear r; obtain ⟨v, rfl, r⟩ := ro
    obtain ⟨a1, v1, rfl, h1, l1, r1⟩ := r.list st.sub
    have e : (prsOf ds).map (fun ps => PyData.dict (toDs (mrgD [] ps))) = some d := e
    cases e2 : prsOf ds with
    | none => rw [e2] at e; cases e
    | some prs =>
      rw [e2] at e
      cases e
      obtain ⟨ps, kvs, rfl, h2, h3⟩ := prs_rp r1 e2
      exact ⟨a1, ps, kvs, rfl, SqL.of h1, paired_imp (fun _ _ h => SqT_same st.sub h) h2, fun p hp => q _ _ _ (st.new hp) (st.keepc hp) (fr_newD st hp (KR.mrg h3 .nil).rp)⟩
end
end MP
namespace MP.SI
open PySem MP MP.SI
local macro_rules | `(tactic| walk_at "w") => `(tactic| first
  | with_reducible refine w_seq ?_
  | with_reducible refine w_set ?_
  | with_reducible refine w_ret ?_
  | with_reducible refine w_cons ?_
  | with_reducible refine w_nil ?_
  | with_reducible refine w_c ?_
  | ((with_reducible refine' w_nm ?hnm ?_); (case hnm => exact rfl))
  | with_reducible refine w_bin ?_
  | with_reducible refine w_b ?_
  | with_reducible refine w_not ?_
  | with_reducible refine w_and ?_
  | with_reducible refine w_or ?_
  | with_reducible refine w_if ?_
  | with_reducible refine w_sif ?_
  | with_reducible refine w_chn ?_
  | with_reducible refine w_call ?_
  | with_reducible refine w_ca ?_
  | with_reducible refine w_tup ?_
  | with_reducible refine w_lst ?_
  | with_reducible refine w_isi ?_
  | with_reducible refine w_drop ?_
  | with_reducible refine w_snil ?_
  | with_reducible refine w_par ?_
  | with_reducible refine w_asg ?_
  | with_reducible refine w_for ?_
  | with_reducible refine w_lc ?_
  | with_reducible refine w_it ?_
  | with_reducible refine w_zip ?_
  | with_reducible refine w_enum ?_
  | with_reducible refine w_sl2 ?_
  | with_reducible refine w_eoN ?_
  | with_reducible refine w_eoS ?_
  | with_reducible refine w_me ?_
  | with_reducible refine w_rev ?_
  | ((with_reducible refine' w_app ?hap ?_); (case hap => exact rfl))
  | ((with_reducible refine' w_augI ?hap ?_); (case hap => exact rfl))
  | with_reducible refine w_rg1 ?_
  | with_reducible refine w_rg2 ?_
  | with_reducible refine w_scup ?_
  | with_reducible refine w_cup ?_
  | with_reducible refine w_neg ?_
  | with_reducible refine w_mean ?_
  | with_reducible refine ⟨_, dLt_ii, ?_⟩
  | with_reducible refine ⟨_, dGt_ii, ?_⟩
  | with_reducible refine ⟨_, dLe_ii, ?_⟩
  | with_reducible refine ⟨_, dGe_ii, ?_⟩
  | with_reducible refine ⟨_, dEq_ii, ?_⟩
  | with_reducible refine ⟨_, dNe_ii, ?_⟩
  | with_reducible refine ⟨_, dLe_ii, fun _ => ?_, fun _ => ?_⟩
  | with_reducible refine ⟨_, dLt_ii, fun _ => ?_, fun _ => ?_⟩
  | with_reducible refine ⟨_, dAdd_ii, ?_⟩
  | with_reducible refine ⟨_, dSub_ii, ?_⟩
  | with_reducible refine ⟨_, isi_int_int, ?_⟩
  | with_reducible refine ⟨_, isi_int_bool, ?_⟩
  | with_reducible refine ⟨_, isi_int_str, ?_⟩
  | with_reducible refine ⟨_, isi_int_tuple, ?_⟩
  | with_reducible refine ⟨_, isi_tuple_int, ?_⟩
  | with_reducible refine ⟨_, isi_tuple_bool, ?_⟩
  | with_reducible refine ⟨_, isi_tuple_str, ?_⟩
  | with_reducible refine ⟨_, isi_tuple_tuple, ?_⟩
  | with_reducible refine ⟨_, isi_str_int, ?_⟩
  | with_reducible refine ⟨_, isi_str_bool, ?_⟩
  | with_reducible refine ⟨_, isi_str_str, ?_⟩
  | with_reducible refine ⟨_, isi_str_tuple, ?_⟩
  | with_reducible refine ⟨_, isi_bool_int, ?_⟩
  | with_reducible refine ⟨_, isi_bool_bool, ?_⟩
  | with_reducible refine ⟨_, isi_bool_str, ?_⟩
  | with_reducible refine ⟨_, isi_bool_tuple, ?_⟩
  | with_reducible refine ⟨_, isi_none_int, ?_⟩
  | with_reducible refine ⟨_, isi_none_bool, ?_⟩
  | with_reducible refine ⟨_, isi_none_str, ?_⟩
  | with_reducible refine ⟨_, isi_none_tuple, ?_⟩
  | with_reducible refine ⟨_, isi_list_int, ?_⟩
  | with_reducible refine ⟨_, isi_list_bool, ?_⟩
  | with_reducible refine ⟨_, isi_list_str, ?_⟩
  | with_reducible refine ⟨_, isi_list_tuple, ?_⟩
  | with_reducible refine ⟨true, rfl, fun _ => ?_, fun h => absurd h (by decide)⟩
  | with_reducible refine ⟨false, rfl, fun h => absurd h (by decide), fun _ => ?_⟩
  | with_reducible refine ⟨_, rfl, fun hb => ?_, fun hb => ?_⟩
  | with_reducible refine ⟨_, rfl, ?_⟩
  | with_reducible refine ⟨fun hb => ?_, fun hb => ?_⟩
  | with_reducible exact ⟨rfl, rfl⟩
  | with_reducible refine ⟨(rfl : isLst _ = true), ?_⟩)
/-! ## bars, lone towers -/
def barsL (hs : List Int) (a b : Nat) (x y : Int) : List Nat := if a < b then (mids a b).filter (barAt hs a b x y) else (mids b a).filter (barAt hs b a y x)
theorem bars_nil {hs : List Int} {a b : Nat} {x y : Int} (h : a ≠ b) : (barsL hs a b x y).isEmpty = seeB hs a b x y := by
  have key : ∀ (l : List Nat) (f : Nat → Bool), (l.filter f).isEmpty = l.all fun p => !f p := by
    intro l f
    induction l with
    | nil => rfl
    | cons a l ih =>
      cases e : f a with
      | true => rw [List.filter_cons_of_pos e, List.all_cons, e]; rfl
      | false => rw [List.filter_cons_of_neg (by rw [e]; decide), List.all_cons, e, ih]; rfl
  unfold barsL seeB
  split
  · exact key _ _
  · exact key _ _
def gBars : Mean := mean false 8
  (sSeq (sAsg (gTp (gsCons (gNm 3) (gsCons (gNm 4) gsNil))) (eIf (eB (eBin dLt (eBin dIx (eNm 1) (eC (.int 0))) (eBin dIx (eNm 2) (eC (.int 0))))) (eTup (eCons (eNm 1) (eCons (eNm 2) eNil))) (eTup (eCons (eNm 2) (eCons (eNm 1) eNil)))))
  (sSeq (sSet 5 (eLst eNil))
  (sSeq (sFor (gNm 6) (eRg2 (eBin dAdd (eBin dIx (eNm 3) (eC (.int 0))) (eC (.int 1))) (eBin dIx (eNm 4) (eC (.int 0))))
    (sSeq (sSet 7 (eBin dAdd (eBin dMul (eBin dIx (eNm 3) (eC (.int 1))) (eBin dSub (eBin dIx (eNm 4) (eC (.int 0))) (eBin dIx (eNm 3) (eC (.int 0))))) (eBin dMul (eBin dSub (eBin dIx (eNm 4) (eC (.int 1))) (eBin dIx (eNm 3) (eC (.int 1)))) (eBin dSub (eNm 6) (eBin dIx (eNm 3) (eC (.int 0)))))))
    (sIf (eB (eBin dLe (eNm 7) (eBin dMul (eBin dIx (eNm 0) (eNm 6)) (eBin dSub (eBin dIx (eNm 4) (eC (.int 0))) (eBin dIx (eNm 3) (eC (.int 0)))))))
      (sApp 5 (eNm 6))
      sNil)))
  (sRet (eNm 5)))))
def lbB : Sv := (sSeq (sSet 7 (eBin dAdd (eBin dMul (eBin dIx (eNm 3) (eC (.int 1))) (eBin dSub (eBin dIx (eNm 4) (eC (.int 0))) (eBin dIx (eNm 3) (eC (.int 0))))) (eBin dMul (eBin dSub (eBin dIx (eNm 4) (eC (.int 1))) (eBin dIx (eNm 3) (eC (.int 1)))) (eBin dSub (eNm 6) (eBin dIx (eNm 3) (eC (.int 0)))))))
    (sIf (eB (eBin dLe (eNm 7) (eBin dMul (eBin dIx (eNm 0) (eNm 6)) (eBin dSub (eBin dIx (eNm 4) (eC (.int 0))) (eBin dIx (eNm 3) (eC (.int 0)))))))
      (sApp 5 (eNm 6))
      sNil))
theorem mids_len {a b : Nat} : (mids a b).length = b - a - 1 := by unfold mids; rw [List.length_map, List.length_range]
theorem line_eq {x y u v p : Int} : x * (v - u) + (y - x) * (p - u) = x * (v - p) + y * (p - u) := by
  have e1 : x * (v - u) = x * (v - p) + x * (p - u) := by rw [← Int.mul_add]; congr 1; omega
  have e2 : (y - x) * (p - u) = y * (p - u) - x * (p - u) := Int.sub_mul ..
  omega
theorem lbars_loop {hs : List Int} {a b : Nat} {x y : Int} {o1 o2 : D} (hb : b < hs.length) (hl : hs.length ≤ 200) (cp : Cup) (z z7 : Option D) (PO : Out → Cup → Prop)
    (k1 : ∀ z z7, PO (.nx [some (C hs), some o1, some o2, some (T2 a x), some (T2 b y), some (NL ((mids a b).filter (barAt hs a b x y))), z, z7]) cp) :
    Wp (forGo (gNm 6) lbB ((mids a b).map fun p : Nat => .int p) [some (C hs), some o1, some o2, some (T2 a x), some (T2 b y), some (.list []), z, z7] cp) PO := by
  unfold lbB
  refine forGo_map (l := mids a b) (I := fun ps r env c => c = cp ∧ ∃ z z7, env = [some (C hs), some o1, some o2, some (T2 a x), some (T2 b y), some (NL (ps.filter (barAt hs a b x y))), z, z7]) ?_ ?_ _ [] _ _ rfl ⟨rfl, z, z7, rfl⟩
  · rintro ps p r env c e ⟨rfl, z, z7, rfl⟩
    have hp : a < p ∧ p < b := mem_mids.mp (by rw [e]; simp)
    have hlen : ps.length ≤ 200 := by
      have := congrArg List.length e
      rw [mids_len, List.length_append] at this
      omega
    have hf := List.length_filter_le (barAt hs a b x y) ps
    refine ⟨_, rfl, ?_⟩
    repeat walk_at "w"
    refine ⟨_, dMulr (by omega) (by omega), ?_⟩
    repeat walk_at "w"
    refine ⟨_, dMulr (by omega) (by omega), ?_⟩
    repeat walk_at "w"
    refine ⟨_, atI_ints (getD_some (by omega)), ?_⟩
    repeat walk_at "w"
    refine ⟨_, dMulr (by omega) (by omega), ?_⟩
    repeat walk_at "w"
    · rename_i hb2
      have hb3 : barAt hs a b x y p = true := by
        rw [line_eq] at hb2
        exact hb2
      refine ⟨by rw [List.length_map]; omega, rfl, some (.int p), some (.int (x * ((b : Int) - a) + (y - x) * ((p : Int) - a))), ?_⟩
      rw [List.filter_append, List.filter_cons_of_pos hb3]
      unfold NL
      rw [List.map_append]
      rfl
    · rename_i hb2
      have hb3 : barAt hs a b x y p = false := by
        rw [line_eq] at hb2
        exact hb2
      refine ⟨rfl, some (.int p), some (.int (x * ((b : Int) - a) + (y - x) * ((p : Int) - a))), ?_⟩
      rw [List.filter_append, List.filter_cons_of_neg (by rw [hb3]; decide), List.filter_nil, List.append_nil]
      rfl
  · rintro env c ⟨rfl, z, z7, rfl⟩
    exact k1 z z7
theorem bars_ok {hs : List Int} {a b : Nat} {x y : Int} (ha : a < hs.length) (hb : b < hs.length) (hl : hs.length ≤ 200) (cp : Cup) : gBars [C hs, T2 a x, T2 b y] cp = .ok (NL (barsL hs a b x y)) cp := by
  have e1 : ∀ {u v : Nat}, ¬ u < v → (rangeL ((u : Int) + 1) ((v : Int) - ((u : Int) + 1)).toNat) = (mids u v).map fun p : Nat => .int p := by
    intro u v h
    unfold rangeL mids
    rw [show ((v : Int) - ((u : Int) + 1)).toNat = 0 by omega, show v - u - 1 = 0 by omega]
    rfl
  have e2 : ∀ {u v : Nat}, (rangeL ((u : Int) + 1) ((v : Int) - ((u : Int) + 1)).toNat) = (mids u v).map fun p : Nat => .int p := by
    intro u v
    by_cases h : u < v
    · exact range_mids h
    · exact e1 h
  refine wp_of ?_
  unfold gBars
  repeat walk_at "w"
  · rename_i h
    have h : a < b := by simpa using h
    refine ⟨_, _, rfl, rfl, okR_of (by omega) (by omega), okR_of (by omega) (by omega), okLen_of (by omega), ?_⟩
    rw [e2]
    refine lbars_loop hb hl _ _ _ _ (fun z z7 => ?_)
    repeat walk_at "w"
    unfold barsL
    rw [if_pos h]
    exact ⟨rfl, rfl⟩
  · rename_i h
    have h : ¬ a < b := by simpa using h
    repeat walk_at "w"
    refine ⟨_, _, rfl, rfl, okR_of (by omega) (by omega), okR_of (by omega) (by omega), okLen_of (by omega), ?_⟩
    rw [e2]
    refine lbars_loop ha hl _ _ _ _ (fun z z7 => ?_)
    repeat walk_at "w"
    unfold barsL
    rw [if_neg h]
    exact ⟨rfl, rfl⟩
def gLone : Mean := mean false 5
  (sSeq (sDrop (eCall m_need_towers (eCons (eNm 0) (eCons (eNm 1) eNil))))
  (sSeq (sSet 2 (eCall m_sight_pairs (eCons (eNm 0) (eCons (eNm 1) eNil))))
  (sRet (eCa bTuple (eCons (eLc [3] (gNm 3) (eIt (eNm 1)) (eNot (eB (eCa bAny (eCons (eLc [4] (gNm 4) (eIt (eNm 2)) (eC (.bool true)) (eBin dIn (eBin dIx (eNm 3) (eC (.int 0))) (eNm 4))) eNil)))) (eBin dIx (eNm 3) (eC (.int 0)))) eNil)))))
theorem barsL_symm {hs : List Int} {a b : Nat} {x y : Int} (h : a ≠ b) : barsL hs a b x y = barsL hs b a y x := by
  unfold barsL
  by_cases hab : a < b
  · rw [if_pos hab, if_neg (by omega)]
  · rw [if_neg hab, if_pos (by omega)]
theorem barring_in_ne {hs : List Int} {a b : Nat} {x y : Int} (ha : a < hs.length) (hb : b < hs.length) (hl : hs.length ≤ 200) (h : a ≠ b) (cp : Cup) : m_barring_in [C hs, T2 a x, T2 b y] cp = .ok (NL (barsL hs a b x y)) cp := by
  unfold barsL
  by_cases hab : a < b
  · rw [if_pos hab, barring_in_lt hb hl hab]
  · rw [if_neg hab, barring_in_gt ha hl (by omega)]
abbrev topH (hs : List Int) (t : Tw) : Int := hs.getD t.2.1.toNat 0 + t.2.2
abbrev barsT (hs : List Int) (t u : Tw) : List Nat := barsL hs t.2.1.toNat u.2.1.toNat (topH hs t) (topH hs u)
theorem barsL_len {hs : List Int} {a b : Nat} {x y : Int} (ha : a < hs.length) (hb : b < hs.length) : (barsL hs a b x y).length ≤ hs.length := by
  unfold barsL
  split
  · have := List.length_filter_le (barAt hs a b x y) (mids a b)
    rw [mids_len] at this
    omega
  · have := List.length_filter_le (barAt hs b a y x) (mids b a)
    rw [mids_len] at this
    omega
theorem barring_tw {hs : List Int} {ts : List Tw} {t u : Tw} (h : COk hs) (k : TOk hs.length ts) (ht : t ∈ ts) (hu : u ∈ ts) (ne : t.1 ≠ u.1) (cp : Cup) : m_barring_places [C hs, TT ts, .str t.1, .str u.1] cp = .ok (.tuple ((barsT hs t u).map fun p : Nat => .int p)) cp := by
  have t1 := k.2.1 _ ht
  have u1 := k.2.1 _ hu
  have hp := tok_place k ht hu ne
  obtain ⟨x, p, m⟩ := t
  obtain ⟨y, q, n⟩ := u
  obtain ⟨p, rfl⟩ : ∃ n : Nat, p = n := ⟨p.toNat, by have h0 : 0 ≤ p := t1.2.1; omega⟩
  obtain ⟨q, rfl⟩ : ∃ n : Nat, q = n := ⟨q.toNat, by have h0 : 0 ≤ q := u1.2.1; omega⟩
  have hpl : p < hs.length := by have h2 : (p : Int) < hs.length := t1.2.2.1; omega
  have hql : q < hs.length := by have h2 : (q : Int) < hs.length := u1.2.2.1; omega
  exact barring_places_ok h k ht hu (getD_some hpl) (getD_some hql) cp fun cp => barring_in_ne hpl hql h.2.1 hp cp
theorem barring_self {hs : List Int} {ts : List Tw} {t : Tw} (h : COk hs) (k : TOk hs.length ts) (ht : t ∈ ts) (cp : Cup) : m_barring_places [C hs, TT ts, .str t.1, .str t.1] cp = .ok (.tuple []) cp := by
  have t1 := k.2.1 _ ht
  obtain ⟨x, p, m⟩ := t
  obtain ⟨p, rfl⟩ : ∃ n : Nat, p = n := ⟨p.toNat, by have h0 : 0 ≤ p := t1.2.1; omega⟩
  have hpl : p < hs.length := by have h2 : (p : Int) < hs.length := t1.2.2.1; omega
  have hl := h.2.1
  exact barring_places_ok (bs := []) h k ht ht (getD_some hpl) (getD_some hpl) cp fun cp => barring_in_same (by omega) cp
theorem openT_bars {hs : List Int} {ts : List Tw} {t u : Tw} (k : TOk hs.length ts) (ht : t ∈ ts) (hu : u ∈ ts) (ne : t.1 ≠ u.1) : (barsT hs t u).isEmpty = openTw hs t u := bars_nil (tok_place k ht hu ne)
/-! a dict of unlike keys -/
theorem mrg_new : ∀ (ps acc : List (L2.Key × D)), ((acc ++ ps).map (·.1)).Nodup → mrgD acc ps = acc ++ ps
  | [], acc, _ => by rw [List.append_nil]; rfl
  | p :: ps, acc, h => by
    show mrgD (putD acc p.1 p.2) ps = _
    have e : putD acc p.1 p.2 = acc ++ [p] := by
      unfold putD
      rw [if_neg]
      rw [List.any_eq_true]
      rintro ⟨q, hq, e⟩
      have e := of_decide_eq_true e
      rw [List.map_append, List.nodup_append] at h
      exact h.2.2 _ (List.mem_map.mpr ⟨q, hq, rfl⟩) _ (List.mem_map.mpr ⟨p, List.mem_cons_self, rfl⟩) e
    rw [e, mrg_new ps (acc ++ [p]) (by rw [List.append_assoc]; exact h), List.append_assoc]
    rfl
theorem dict_strs {α : Type} {l : List α} {f : α → Str} {g : α → D} (nd : (l.map f).Nodup) : bDict [.list (l.map fun a => .tuple [.str (f a), g a])] = some (.dict (l.map fun a => (.str (f a), g a))) := by
  have e : ∀ l : List α, prsOf (l.map fun a => .tuple [.str (f a), g a]) = some (l.map fun a => (.inr (f a), g a)) := by
    intro l
    induction l with
    | nil => rfl
    | cons a l ih =>
      rw [List.map_cons, prsOf, ih]
      rfl
  show (prsOf (l.map fun a => PyData.tuple [.str (f a), g a])).map (fun ps => PyData.dict (toDs (mrgD [] ps))) = _
  rw [e, Option.map_some, mrg_new]
  · unfold toDs
    rw [List.nil_append, List.map_map]
    rfl
  · rw [List.nil_append, List.map_map]
    show List.Pairwise _ _
    have nd : List.Pairwise _ _ := nd
    rw [List.pairwise_map] at nd ⊢
    exact nd.imp fun {a b} hab e => hab (Sum.inr.inj e)
theorem dict_str_get {α : Type} {l : List α} {f : α → Str} {g : α → D} (nd : (l.map f).Nodup) {a : α} (ha : a ∈ l) : dIx (.dict (l.map fun a => (.str (f a), g a))) (.str (f a)) = some (g a) := by
  show ((l.map fun a => (PyData.str (f a), g a)).find? fun kv => decide (keyOf kv.1 = some (.inr (f a)))).map (·.2) = _
  induction l with
  | nil => cases ha
  | cons b l ih =>
    obtain ⟨n1, n2⟩ := List.nodup_cons.mp nd
    rw [List.map_cons, List.find?_cons]
    by_cases e : f b = f a
    · have : decide (keyOf (PyData.str (f b)) = some (.inr (f a))) = true := decide_eq_true (by rw [e]; rfl)
      show Option.map _ (match decide (keyOf (PyData.str (f b)) = some (.inr (f a))) with | true => some (PyData.str (f b), g b) | false => _) = _
      rw [this]
      rcases List.mem_cons.mp ha with rfl | ha
      · rfl
      · exact absurd (List.mem_map.mpr ⟨a, ha, e.symm⟩) n1
    · have : decide (keyOf (PyData.str (f b)) = some (.inr (f a))) = false := decide_eq_false fun z => e (Sum.inr.inj (Option.some.inj z))
      show Option.map _ (match decide (keyOf (PyData.str (f b)) = some (.inr (f a))) with | true => some (PyData.str (f b), g b) | false => _) = _
      rw [this]
      rcases List.mem_cons.mp ha with rfl | ha
      · exact absurd rfl e
      · exact ih n2 ha
/-! who is in a pair -/
def inP (x : Str) : D → Bool
  | .tuple [.str a, .str b] => decide (a = x) || decide (b = x)
  | _ => false
theorem in_pair {x a b : Str} (hx : PyData.strOk x = true) (ha : PyData.strOk a = true) (hb : PyData.strOk b = true) : dIn (.str x) (.tuple [.str a, .str b]) = some (.bool (inP x (.tuple [.str a, .str b]))) := by
  have hs : shp (.tuple [.str a, .str b]) = true := shp_tuple fun d hd => by
    rcases List.mem_cons.mp hd with rfl | hd
    · exact ⟨(lay_str ha).1, by have := (lay_str ha).2; omega⟩
    · obtain rfl := List.mem_singleton.mp hd
      exact ⟨(lay_str hb).1, by have := (lay_str hb).2; omega⟩
  show (if (shp (.str x) && shp (.tuple [.str a, .str b])) = true then some (PyData.bool (([PyData.str a, .str b] : List D).any fun z => PyData.eqv z (.str x))) else none) = _
  rw [if_pos (by rw [shp_str hx, hs]; rfl), List.any_cons, List.any_cons, List.any_nil, Bool.or_false, eqv_ss, eqv_ss]
  rfl
theorem any_map_bool {α : Type} (f : α → Bool) (l : List α) : bAny [.list (l.map fun a => .bool (f a))] = some (.bool (l.any f)) := by
  show (bools (l.map fun a => PyData.bool (f a))).map (fun bs => PyData.bool (bs.any id)) = _
  rw [bools_map]
  simp [List.any_map]
theorem lone_ok {hs : List Int} {ts : List Tw} (h : COk hs) (k : TOk hs.length ts) (cp : Cup) : gLone [C hs, TT ts] cp = .ok (.tuple ((ts.filter fun t => !(pairsL (openTw hs) pairD ts).any (inP t.1)).map fun t => .str t.1)) cp := by
  refine wp_of ?_
  unfold gLone
  repeat walk_at "w"
  refine w_eq (need_towers_ok h k _) ?_
  repeat walk_at "w"
  refine w_eq (sight_pairsL_ok h.2.1 k _) ?_
  repeat walk_at "w"
  refine w_eq (lcGo_mapP (l := ts) (tt := fun t => !(pairsL (openTw hs) pairD ts).any (inP t.1)) (ee := fun u => .str u.1) fun u hu => ⟨_, rfl, fun cp => ⟨wp_of ?_, fun _ => wp_of ?_⟩⟩) ?_
  · repeat walk_at "w"
    refine w_eq (lcGo_pure (tt := fun _ => true) (ee := fun d => .bool (inP u.1 d)) fun d hd => ⟨_, rfl, fun cp => ⟨rfl, fun _ => wp_of ?_⟩⟩) ?_
    · obtain ⟨t2, u2, s, _, rfl⟩ := mem_pairsL.mp hd
      obtain ⟨m1, m2, _⟩ := tok_sub k s
      repeat walk_at "w"
      refine ⟨_, in_pair (k.2.1 u hu).1.1 (k.2.1 t2 m1).1.1 (k.2.1 u2 m2).1.1, ?_⟩
      repeat walk_at "w"
    rw [List.filter_eq_self.mpr fun _ _ => rfl]
    repeat walk_at "w"
    refine ⟨_, any_map_bool _ _, ?_⟩
    repeat walk_at "w"
  · repeat walk_at "w"
  repeat walk_at "w"
end MP.SI
namespace MP
theorem mul_shape {a b : D} {Q : D → Prop} (h : ∃ d, dMul a b = some d ∧ Q d) : ∃ d, dMul a b = some d ∧ Q d := h
theorem mul2_shape {a b : D} {Q : D → Prop} (h : ∃ d, dMul2 a b = some d ∧ Q d) : ∃ d, dMul2 a b = some d ∧ Q d := h
end MP
namespace L2
open PySem PySem.Spec PyProof.Rows
/-! a text times an int -/
def strRep (z : Str) (n : Nat) : Str := ⟨(List.replicate n z.cps).foldl (· ++ ·) #[]⟩
def rRepS : R2 := fun x y H Q => ∃ z k, x = .str z ∧ y = .int k ∧ 2 ≤ k ∧ k ≤ 1000 ∧ 1 ≤ z.length ∧ z.length ≤ 1000 ∧ (strRep z k.toNat).length ≤ sizeLine ∧ Q (.str (strRep z k.toNat)) H
section
variable {X : Cx}
theorem op_repS : OpR X (binaryOp .Mult) rRepS := by
  intro pins s σ H x y v u Q I rx ry h
  obtain ⟨z, k, rfl, rfl, k1, k2, z1, z2, hl, q⟩ := h
  obtain ⟨t1, rfl⟩ := rx
  obtain ⟨t, rfl⟩ := ry
  have hd : z.length * k.toNat ≤ 1000 * 1000 := Nat.mul_le_mul z2 (by omega)
  refine P.mul_str ?_ (fun _ _ => ?_) (fun _ _ => ?_) ?_
  · rw [decide_eq_false (by omega), decide_eq_false (by omega)]
    rfl
  · have : (1000 : Int) ≤ (2 ^ 63 - 1) / k := Int.le_ediv_of_mul_le (by omega) (by omega)
    omega
  · exact PyProof.Rows.short24 (by omega)
  · rw [if_neg (by omega), if_neg (by simp; omega)]
    exact ⟨hl, .str (strRep z k.toNat), H, I.kept fun b ob e => e, ⟨_, rfl⟩, q⟩
end
end L2
namespace MP
open PySem PySem.Spec PyProof.Rows L2
def dMul3 : D → D → Option D
  | .str z, .int k => if decide (2 ≤ k) && decide (k ≤ 1000) && decide (1 ≤ z.length) && decide (z.length ≤ 1000) && decide ((strRep z k.toNat).length ≤ 16777216) && PyData.strOk (strRep z k.toNat) then some (.str (strRep z k.toNat)) else none
  | a, b => dMul2 a b
section
variable {X : Cx}
theorem ops_mul3 : OpS X (binaryOp .Mult) dMul3 := by
  obtain ⟨r, hr, go⟩ := ops_mul2 (X := X)
  refine ⟨_, op_repS.or hr, fun c W F H x y a b d Q st ra rb e q => ?_⟩
  unfold dMul3 at e
  split at e
  · obtain ⟨h, rfl⟩ := if_some e
    simp only [Bool.and_eq_true, decide_eq_true_eq] at h
    obtain ⟨⟨⟨⟨⟨h1, h2⟩, h3⟩, h4⟩, h5⟩, h6⟩ := h
    have ra := ra.flat rfl
    have rb := rb.flat rfl
    cases ra
    cases rb
    exact .inl ⟨_, _, rfl, rfl, h1, h2, h3, h4, okLen_le (decide_eq_true h5), q F H _ st.refl rfl (fr_flat (.str _ ⟨h6, okLen_le (decide_eq_true h5)⟩))⟩
  · exact .inr (go c W F H x y _ _ d Q st ra rb e q)
end
/-! sorted of a dict whose keys are texts -/
def dStrs : List (D × D) → Option (List Str)
  | [] => some []
  | (.str x, _) :: r => (dStrs r).map (x :: ·)
  | _ => none
def leT (x y : Str) : Bool := !decide (y.cps.toList < x.cps.toList)
theorem rpk_strs {K : MpK} {F : Hp} : ∀ {kvs : List (Key × V)} {ds : List (D × D)} {ks : List Str}, RpK K F kvs ds → dStrs ds = some ks → kvs.map (·.1) = ks.map Sum.inr
  | _, _, _, .nil, e => by cases e; rfl
  | (k, v) :: kvs, _ :: ds, ks, .cons h t, e => by
    cases k with
    | inl i => cases e
    | inr x =>
      have e : (dStrs ds).map (x :: ·) = some ks := e
      cases e1 : dStrs ds with
      | none => rw [e1] at e; cases e
      | some ks2 =>
        rw [e1] at e
        cases e
        rw [List.map_cons, List.map_cons, rpk_strs t e1]
theorem leT_iff {x y : Str} : leT x y = true ↔ x.cps.toList ≤ y.cps.toList := by
  unfold leT
  rw [Bool.not_eq_true', decide_eq_false_iff_not]
  exact List.not_lt
theorem leT_trans {x y z : Str} (h1 : leT x y = true) (h2 : leT y z = true) : leT x z = true := leT_iff.mpr (List.le_trans (leT_iff.mp h1) (leT_iff.mp h2))
theorem rising_pw : ∀ (l : List Str) (p : Str), risingS p l = true → (p :: l).Pairwise fun a b => leT a b = true
  | [], p, _ => List.pairwise_singleton _ _
  | x :: r, p, h => by
    unfold risingS at h
    rw [Bool.and_eq_true, ltCps_eq] at h
    have h1 : leT p x = true := h.1
    have ih := rising_pw r x h.2
    refine List.pairwise_cons.mpr ⟨fun y hy => ?_, ih⟩
    rcases List.mem_cons.mp hy with rfl | hy
    · exact h1
    · exact leT_trans h1 ((List.pairwise_cons.mp ih).1 y hy)
theorem sorted_eq {ys ks : List Str} (hp : ys.Perm ks) (hs : sortedS ys = true) : ys = ks.mergeSort leT := by
  have p1 : ys.Pairwise fun a b => leT a b = true := by
    cases ys with
    | nil => exact List.Pairwise.nil
    | cons y ys => exact rising_pw ys y hs
  have tot : ∀ a b : Str, (leT a b || leT b a) = true := fun a b => by
    rw [Bool.or_eq_true, leT_iff, leT_iff]
    exact List.le_total _ _
  have p2 : (ks.mergeSort leT).Pairwise fun a b => leT a b = true := List.pairwise_mergeSort (le := leT) (fun a b c h1 h2 => leT_trans h1 h2) tot ks
  exact List.Perm.eq_of_pairwise (fun a b _ _ h1 h2 => PySem.W.str_of_cps (List.le_antisymm (leT_iff.mp h1) (leT_iff.mp h2))) p1 p2 (hp.trans (List.mergeSort_perm ks leT).symm)
theorem rpa_strs {K : MpK} {F : Hp} : ∀ {ks : List Str}, (∀ x ∈ ks, sOk x) → RpA K F (ks.map V.str) (ks.map .str)
  | [], _ => .nil
  | x :: ks, h => .cons (.str x (h x List.mem_cons_self)) (rpa_strs fun y hy => h y (List.mem_cons_of_mem _ hy))
def strsOk (ks : List Str) : Bool := ks.all fun x => PyData.strOk x && decide (x.length ≤ 16777216)
def bSortedD2 : List D → Option D
  | [.dict ds] => match dStrs ds with
    | some ks => if decide (ks.length < 64) && strsOk ks then some (.list ((ks.mergeSort leT).map .str)) else none
    | none => none
  | _ => none
section
variable {X : Cx}
theorem cas_sortedD (hc : X.calm = true) : CaS X (.builtin "sorted") bSortedD2 := by
  refine ⟨_, call_sortedD hc, fun c W F H xs ds d Q st r e q => ?_⟩
  match ds, e with
  | [.dict ds], e =>
    have ro := r.one; clear r; obtain ⟨v, rfl, r⟩ := ro
    obtain ⟨a1, rfl, hh⟩ := r.dict st.sub
    cases e2 : dStrs ds with
    | none =>
      have e : (match dStrs ds with
        | some ks => if decide (ks.length < 64) && strsOk ks then some (PyData.list ((ks.mergeSort leT).map .str)) else none
        | none => none) = some d := e
      rw [e2] at e
      cases e
    | some ks =>
      have e : (match dStrs ds with
        | some ks => if decide (ks.length < 64) && strsOk ks then some (PyData.list ((ks.mergeSort leT).map .str)) else none
        | none => none) = some d := e
      rw [e2] at e
      obtain ⟨hk, rfl⟩ := if_some e
      rw [Bool.and_eq_true, decide_eq_true_iff] at hk
      obtain ⟨k1, k2⟩ := hk
      obtain ⟨v1, h1, r1⟩ : ∃ vs, H a1 = some (.dK vs) ∧ RpK X.kk F vs _ := by
        rcases hh with hh | ⟨xs, _, n, _, r⟩
        · exact hh
        · cases r with
          | nil => exact absurd rfl n
          | cons _ _ _ _ _ _ => cases e2
      refine ⟨a1, v1, ks, rfl, .inl h1, rpk_strs r1 e2, k1, fun ys p hp hs hn => ?_⟩
      obtain rfl := sorted_eq hp hs
      have ok : ∀ x ∈ ks.mergeSort leT, sOk x := fun x hx => by
        have := List.all_eq_true.mp k2 x ((List.mergeSort_perm ks leT).mem_iff.mp hx)
        rw [Bool.and_eq_true] at this
        exact ⟨this.1, okLen_le this.2⟩
      exact q _ _ _ (st.new hn) (st.keepc hn) (fr_new st hn (by rw [List.length_map, (List.mergeSort_perm ks leT).length_eq, sizeLine_eq]; omega) (rpa_strs ok))
end
end MP
namespace MP.SI
open PySem MP MP.SI
local macro_rules | `(tactic| walk_at "w") => `(tactic| first
  | with_reducible refine w_seq ?_
  | with_reducible refine w_set ?_
  | with_reducible refine w_ret ?_
  | with_reducible refine w_cons ?_
  | with_reducible refine w_nil ?_
  | with_reducible refine w_c ?_
  | ((with_reducible refine' w_nm ?hnm ?_); (case hnm => exact rfl))
  | with_reducible refine w_bin ?_
  | with_reducible refine w_b ?_
  | with_reducible refine w_not ?_
  | with_reducible refine w_and ?_
  | with_reducible refine w_or ?_
  | with_reducible refine w_if ?_
  | with_reducible refine w_sif ?_
  | with_reducible refine w_chn ?_
  | with_reducible refine w_call ?_
  | with_reducible refine w_ca ?_
  | with_reducible refine w_tup ?_
  | with_reducible refine w_lst ?_
  | with_reducible refine w_isi ?_
  | with_reducible refine w_drop ?_
  | with_reducible refine w_snil ?_
  | with_reducible refine w_par ?_
  | with_reducible refine w_asg ?_
  | with_reducible refine w_for ?_
  | with_reducible refine w_lc ?_
  | with_reducible refine w_it ?_
  | with_reducible refine w_zip ?_
  | with_reducible refine w_enum ?_
  | with_reducible refine w_sl2 ?_
  | with_reducible refine w_eoN ?_
  | with_reducible refine w_eoS ?_
  | with_reducible refine w_me ?_
  | with_reducible refine w_rev ?_
  | ((with_reducible refine' w_app ?hap ?_); (case hap => exact rfl))
  | ((with_reducible refine' w_augI ?hap ?_); (case hap => exact rfl))
  | with_reducible refine w_rg1 ?_
  | with_reducible refine w_rg2 ?_
  | with_reducible refine w_scup ?_
  | with_reducible refine w_cup ?_
  | with_reducible refine w_neg ?_
  | with_reducible refine w_mean ?_
  | with_reducible refine ⟨_, dLt_ii, ?_⟩
  | with_reducible refine ⟨_, dGt_ii, ?_⟩
  | with_reducible refine ⟨_, dLe_ii, ?_⟩
  | with_reducible refine ⟨_, dGe_ii, ?_⟩
  | with_reducible refine ⟨_, dEq_ii, ?_⟩
  | with_reducible refine ⟨_, dNe_ii, ?_⟩
  | with_reducible refine ⟨_, dLe_ii, fun _ => ?_, fun _ => ?_⟩
  | with_reducible refine ⟨_, dLt_ii, fun _ => ?_, fun _ => ?_⟩
  | with_reducible refine ⟨_, dAdd_ii, ?_⟩
  | with_reducible refine ⟨_, dSub_ii, ?_⟩
  | with_reducible refine ⟨_, isi_int_int, ?_⟩
  | with_reducible refine ⟨_, isi_int_bool, ?_⟩
  | with_reducible refine ⟨_, isi_int_str, ?_⟩
  | with_reducible refine ⟨_, isi_int_tuple, ?_⟩
  | with_reducible refine ⟨_, isi_tuple_int, ?_⟩
  | with_reducible refine ⟨_, isi_tuple_bool, ?_⟩
  | with_reducible refine ⟨_, isi_tuple_str, ?_⟩
  | with_reducible refine ⟨_, isi_tuple_tuple, ?_⟩
  | with_reducible refine ⟨_, isi_str_int, ?_⟩
  | with_reducible refine ⟨_, isi_str_bool, ?_⟩
  | with_reducible refine ⟨_, isi_str_str, ?_⟩
  | with_reducible refine ⟨_, isi_str_tuple, ?_⟩
  | with_reducible refine ⟨_, isi_bool_int, ?_⟩
  | with_reducible refine ⟨_, isi_bool_bool, ?_⟩
  | with_reducible refine ⟨_, isi_bool_str, ?_⟩
  | with_reducible refine ⟨_, isi_bool_tuple, ?_⟩
  | with_reducible refine ⟨_, isi_none_int, ?_⟩
  | with_reducible refine ⟨_, isi_none_bool, ?_⟩
  | with_reducible refine ⟨_, isi_none_str, ?_⟩
  | with_reducible refine ⟨_, isi_none_tuple, ?_⟩
  | with_reducible refine ⟨_, isi_list_int, ?_⟩
  | with_reducible refine ⟨_, isi_list_bool, ?_⟩
  | with_reducible refine ⟨_, isi_list_str, ?_⟩
  | with_reducible refine ⟨_, isi_list_tuple, ?_⟩
  | with_reducible refine ⟨true, rfl, fun _ => ?_, fun h => absurd h (by decide)⟩
  | with_reducible refine ⟨false, rfl, fun h => absurd h (by decide), fun _ => ?_⟩
  | (fail_if_success with_reducible refine mul_shape ?_); (fail_if_success with_reducible refine mul2_shape ?_); with_reducible refine ⟨_, rfl, fun hb => ?_, fun hb => ?_⟩
  | (fail_if_success with_reducible refine mul_shape ?_); (fail_if_success with_reducible refine mul2_shape ?_); with_reducible refine ⟨_, rfl, ?_⟩
  | with_reducible refine ⟨fun hb => ?_, fun hb => ?_⟩
  | with_reducible exact ⟨rfl, rfl⟩
  | with_reducible refine ⟨(rfl : isLst _ = true), ?_⟩)
/-! ## what is a name, a whole number, a tower, towers: of any value -/
def nameS (x : Str) : Bool := (decide (1 ≤ x.length) && decide (x.length ≤ 12)) && ((match x.cps.toList with | c :: _ => decide (c ∈ letters.cps.toList) | [] => false) && x.cps.toList.all fun c => decide (c ∈ signs.cps.toList))
def nameD : D → Bool
  | .str x => nameS x
  | _ => false
theorem str_len (x : Str) : (x.length : Int) = (x.cps.toList.length : Int) := by
  show (x.cps.size : Int) = _
  rw [Array.length_toList]
theorem chr_in (c : Nat) (y : Str) : dIn (.str ⟨#[c]⟩) (.str y) = some (.bool (decide (c ∈ y.cps.toList))) := rfl
theorem chr_notin (c : Nat) (y : Str) : dNotIn (.str ⟨#[c]⟩) (.str y) = some (.bool (!decide (c ∈ y.cps.toList))) := rfl
theorem str_at0 {x : Str} {c : Nat} {cs : List Nat} (e : x.cps.toList = c :: cs) : dIx (.str x) (.int 0) = some (.str ⟨#[c]⟩) := by
  show (L2.atI x.cps.toList 0).map (fun c => PyData.str ⟨#[c]⟩) = _
  rw [e, show L2.atI (c :: cs) 0 = some c from L2.atI_nat (xs := c :: cs) (j := 0) (v := c) rfl]
  rfl
def lenE (i : Nat) : Ev := eChn dLe dLe (eC (.int 1)) (eCa bLen (eCons (eNm i) eNil)) (eC (.int 12))
def lenS (x : Str) : Bool := decide (1 ≤ x.length) && decide (x.length ≤ 12)
theorem lenE_ev {env : MP.Env} {i : Nat} {x : Str} (h : env[i]? = some (some (.str x))) (cp : Cup) : lenE i env cp = .ok (.bool (lenS x)) cp := by
  have e : lenS x = (decide (1 ≤ (x.length : Int)) && decide ((x.length : Int) ≤ 12)) := by
    unfold lenS
    congr 1
    · exact decide_eq_decide.mpr (by omega)
    · exact decide_eq_decide.mpr (by omega)
  rw [e]
  refine wp_of ?_
  unfold lenE
  refine w_chn ?_
  refine w_c ?_
  refine w_ca ?_
  refine w_cons ?_
  refine w_nm h ?_
  refine w_nil ?_
  refine ⟨_, rfl, _, dLe_ii, fun hb => ?_, fun hb => ?_⟩
  · refine w_c ?_
    refine ⟨_, dLe_ii, ?_⟩
    rw [hb]
    exact ⟨rfl, rfl⟩
  · rw [hb]
    exact ⟨rfl, rfl⟩
def headS (x : Str) : Bool := match x.cps.toList with | c :: _ => decide (c ∈ letters.cps.toList) | [] => false
def allS (x : Str) : Bool := x.cps.toList.all fun c => decide (c ∈ signs.cps.toList)
theorem nameS_eq (x : Str) : nameS x = (lenS x && (headS x && allS x)) := rfl
theorem len_head {x : Str} (h : lenS x = true) : ∃ c cs, x.cps.toList = c :: cs := by
  unfold lenS at h
  rw [Bool.and_eq_true, decide_eq_true_iff, decide_eq_true_iff] at h
  have hlen := str_len x
  cases e : x.cps.toList with
  | nil =>
    rw [e] at hlen
    simp at hlen
    omega
  | cons c cs => exact ⟨c, cs, rfl⟩
def headE : Ev := eBin dIn (eBin dIx (eNm 0) (eC (.int 0))) (eC (.str "abcdefghijklmnopqrstuvwxyz"))
def allE : Ev := eCa bAll (eCons (eLc [1] (gNm 1) (eIt (eNm 0)) (eC (.bool true)) (eBin dIn (eNm 1) (eC (.str "abcdefghijklmnopqrstuvwxyz0123456789")))) eNil)
theorem fits_name_eq : m_fits_name = mean false 2
  (sSeq (sIf (eOr (eNot (eB (eIsi "str" (eNm 0)))) (eNot (eB (lenE 0))))
    (sRet (eC (.bool false)))
    sNil)
  (sRet (eAnd headE allE))) := rfl
theorem headE_ev {x : Str} {z : Option D} (h : lenS x = true) (cp : Cup) : headE [some (.str x), z] cp = .ok (.bool (headS x)) cp := by
  obtain ⟨c, cs, e⟩ := len_head h
  have e2 : headS x = decide (c ∈ letters.cps.toList) := by
    unfold headS
    rw [e]
  rw [e2]
  refine wp_of ?_
  unfold headE
  refine w_bin ?_
  refine w_bin ?_
  refine w_nm rfl ?_
  refine w_c ?_
  refine ⟨_, str_at0 e, ?_⟩
  refine w_c ?_
  exact ⟨_, chr_in c _, rfl, rfl⟩
theorem allE_ev {x : Str} {z : Option D} (cp : Cup) : allE [some (.str x), z] cp = .ok (.bool (allS x)) cp := by
  refine wp_of ?_
  unfold allE
  refine w_ca ?_
  refine w_cons ?_
  refine w_lc ?_
  refine w_it ?_
  refine w_nm rfl ?_
  refine ⟨chars x, rfl, ?_⟩
  refine w_eq (lcGo_mapA (l := x.cps.toList) (ee := fun c2 => .bool (decide (c2 ∈ signs.cps.toList))) fun c2 hc2 => ⟨_, rfl, fun cp => wp_of ?_⟩) ?_
  · refine w_bin ?_
    refine w_nm rfl ?_
    refine w_c ?_
    exact ⟨_, chr_in c2 _, rfl, rfl⟩
  refine w_nil ?_
  exact ⟨_, bAll_map _ _, rfl, rfl⟩
theorem fits_name_any {d : D} (h : d.canLay0 = true) (cp : Cup) : m_fits_name [d] cp = .ok (.bool (nameD d)) cp := by
  refine wp_of ?_
  rw [fits_name_eq]
  cases d with
  | dict _ => simp [PyData.canLay0] at h
  | str x =>
    show Wp _ fun y c => y = PyData.bool (nameS x) ∧ c = cp
    rw [nameS_eq]
    repeat walk_at "w"
    refine w_eq (lenE_ev rfl _) ?_
    cases hL : lenS x with
    | false => repeat walk_at "w"
    | true =>
      repeat walk_at "w"
      refine w_eq (headE_ev hL _) ?_
      cases headS x with
      | false => repeat walk_at "w"
      | true =>
        repeat walk_at "w"
        exact w_eq (allE_ev _) ⟨rfl, rfl⟩
  | _ => repeat walk_at "w"
/-! whole numbers -/
def wholeD (a b : Int) : D → Bool
  | .int i => decide (a ≤ i) && decide (i ≤ b)
  | _ => false
def isWh : D → Bool
  | .int _ => true
  | _ => false
theorem is_whole_any {d : D} (h : d.canLay0 = true) (cp : Cup) : m_is_whole [d] cp = .ok (.bool (isWh d)) cp := by
  refine wp_of ?_
  unfold m_is_whole
  cases d with
  | dict _ => simp [PyData.canLay0] at h
  | _ => repeat walk_at "w"
theorem fits_whole_any {d : D} {a b : Int} (h : d.canLay0 = true) (cp : Cup) : m_fits_whole [d, .int a, .int b] cp = .ok (.bool (wholeD a b d)) cp := by
  cases d with
  | int i => exact fits_whole_int i a b cp
  | _ =>
    refine wp_of ?_
    unfold m_fits_whole
    repeat walk_at "w"
    refine w_eq (is_whole_any h _) ?_
    repeat walk_at "w"
def tupD (a b : Int) : D → Bool
  | .tuple l => decide (a ≤ l.length) && decide ((l.length : Int) ≤ b)
  | _ => false
theorem is_tuple_any {d : D} {a b : Int} (h : d.canLay0 = true) (cp : Cup) : m_is_tuple_of [d, .int a, .int b] cp = .ok (.bool (tupD a b d)) cp := by
  cases d with
  | tuple l => exact is_tuple_of_t l a b cp
  | dict _ => simp [PyData.canLay0] at h
  | _ =>
    refine wp_of ?_
    unfold m_is_tuple_of
    repeat walk_at "w"
theorem lay_mem {l : List D} (h : (PyData.tuple l).canLay0 = true) : ∀ d ∈ l, d.canLay0 = true := by
  rw [PyData.canLay0] at h
  induction l with
  | nil => intro d hd; cases hd
  | cons a l ih =>
    rw [PyData.canLayAll0, Bool.and_eq_true] at h
    intro d hd
    rcases List.mem_cons.mp hd with rfl | hd
    · exact h.1
    · exact ih h.2 d hd
/-! a country -/
def countryD (d : D) : Bool := tupD 1 200 d && (match d with | .tuple l => l.all (wholeD 0 10000) | _ => false)
theorem fits_country_any {d : D} (h : d.canLay0 = true) (cp : Cup) : m_fits_country [d] cp = .ok (.bool (countryD d)) cp := by
  refine wp_of ?_
  unfold m_fits_country countryD
  repeat walk_at "w"
  refine w_eq (is_tuple_any h _) ?_
  cases d with
  | tuple l =>
    cases tupD 1 200 (.tuple l) with
    | false => repeat walk_at "w"
    | true =>
      repeat walk_at "w"
      refine w_eq (lcGo_pure (tt := fun _ => true) (ee := fun d => .bool (wholeD 0 10000 d)) fun d hd => ⟨_, rfl, fun cp => ⟨rfl, fun _ => wp_of ?_⟩⟩) ?_
      · repeat walk_at "w"
        exact w_eq (fits_whole_any (lay_mem h d hd) _) ⟨rfl, rfl⟩
      rw [List.filter_eq_self.mpr fun _ _ => rfl]
      repeat walk_at "w"
      exact ⟨_, bAll_map _ _, rfl, rfl⟩
  | _ => repeat walk_at "w"
/-! a tower -/
def towerD (n : Nat) : D → Bool
  | .tuple [a, b, c] => nameD a && (wholeD 0 ((n : Int) - 1) b && wholeD 0 10000 c)
  | _ => false
theorem fits_tower_any {hs : List Int} {d : D} (h : d.canLay0 = true) (cp : Cup) : m_fits_tower [C hs, d] cp = .ok (.bool (towerD hs.length d)) cp := by
  have bad : tupD 3 3 d = false → towerD hs.length d = false := fun e => by
    unfold towerD
    split
    · cases e
    · rfl
  refine wp_of ?_
  unfold m_fits_tower
  repeat walk_at "w"
  refine w_eq (is_tuple_any h _) ?_
  cases hT : tupD 3 3 d with
  | false =>
    rw [bad hT]
    repeat walk_at "w"
  | true =>
    cases d with
    | tuple l =>
      match l, hT, h with
      | [a, b, c], hT, h =>
        have ha := lay_mem h a (by simp)
        have hb := lay_mem h b (by simp)
        have hc := lay_mem h c (by simp)
        have eD : towerD hs.length (.tuple [a, b, c]) = (nameD a && (wholeD 0 ((hs.length : Int) - 1) b && wholeD 0 10000 c)) := rfl
        rw [eD]
        repeat walk_at "w"
        refine w_eq (fits_name_any ha _) ?_
        cases nameD a with
        | false => repeat walk_at "w"
        | true =>
          repeat walk_at "w"
          refine w_eq (fits_whole_any hb _) ?_
          rw [List.length_map]
          cases wholeD 0 ((hs.length : Int) - 1) b with
          | false => repeat walk_at "w"
          | true =>
            repeat walk_at "w"
            exact w_eq (fits_whole_any hc _) ⟨rfl, rfl⟩
      | [], hT, _ => cases hT
      | [_], hT, _ => cases hT
      | [_, _], hT, _ => cases hT
      | _ :: _ :: _ :: _ :: l, hT, _ =>
        unfold tupD at hT
        rw [Bool.and_eq_true, decide_eq_true_iff, decide_eq_true_iff] at hT
        simp only [List.length_cons] at hT
        omega
    | _ => cases hT
end MP.SI
namespace MP.SI
open PySem MP MP.SI
local macro_rules | `(tactic| walk_at "w") => `(tactic| first
  | with_reducible refine w_seq ?_
  | with_reducible refine w_set ?_
  | with_reducible refine w_ret ?_
  | with_reducible refine w_cons ?_
  | with_reducible refine w_nil ?_
  | with_reducible refine w_c ?_
  | ((with_reducible refine' w_nm ?hnm ?_); (case hnm => exact rfl))
  | with_reducible refine w_bin ?_
  | with_reducible refine w_b ?_
  | with_reducible refine w_not ?_
  | with_reducible refine w_and ?_
  | with_reducible refine w_or ?_
  | with_reducible refine w_if ?_
  | with_reducible refine w_sif ?_
  | with_reducible refine w_chn ?_
  | with_reducible refine w_call ?_
  | with_reducible refine w_ca ?_
  | with_reducible refine w_tup ?_
  | with_reducible refine w_lst ?_
  | with_reducible refine w_isi ?_
  | with_reducible refine w_drop ?_
  | with_reducible refine w_snil ?_
  | with_reducible refine w_par ?_
  | with_reducible refine w_asg ?_
  | with_reducible refine w_for ?_
  | with_reducible refine w_lc ?_
  | with_reducible refine w_it ?_
  | with_reducible refine w_zip ?_
  | with_reducible refine w_enum ?_
  | with_reducible refine w_sl2 ?_
  | with_reducible refine w_eoN ?_
  | with_reducible refine w_eoS ?_
  | with_reducible refine w_me ?_
  | with_reducible refine w_rev ?_
  | ((with_reducible refine' w_app ?hap ?_); (case hap => exact rfl))
  | ((with_reducible refine' w_augI ?hap ?_); (case hap => exact rfl))
  | with_reducible refine w_rg1 ?_
  | with_reducible refine w_rg2 ?_
  | with_reducible refine w_scup ?_
  | with_reducible refine w_cup ?_
  | with_reducible refine w_neg ?_
  | with_reducible refine w_mean ?_
  | with_reducible refine ⟨_, dLt_ii, ?_⟩
  | with_reducible refine ⟨_, dGt_ii, ?_⟩
  | with_reducible refine ⟨_, dLe_ii, ?_⟩
  | with_reducible refine ⟨_, dGe_ii, ?_⟩
  | with_reducible refine ⟨_, dEq_ii, ?_⟩
  | with_reducible refine ⟨_, dNe_ii, ?_⟩
  | with_reducible refine ⟨_, dLe_ii, fun _ => ?_, fun _ => ?_⟩
  | with_reducible refine ⟨_, dLt_ii, fun _ => ?_, fun _ => ?_⟩
  | with_reducible refine ⟨_, dAdd_ii, ?_⟩
  | with_reducible refine ⟨_, dSub_ii, ?_⟩
  | with_reducible refine ⟨_, isi_int_int, ?_⟩
  | with_reducible refine ⟨_, isi_int_bool, ?_⟩
  | with_reducible refine ⟨_, isi_int_str, ?_⟩
  | with_reducible refine ⟨_, isi_int_tuple, ?_⟩
  | with_reducible refine ⟨_, isi_tuple_int, ?_⟩
  | with_reducible refine ⟨_, isi_tuple_bool, ?_⟩
  | with_reducible refine ⟨_, isi_tuple_str, ?_⟩
  | with_reducible refine ⟨_, isi_tuple_tuple, ?_⟩
  | with_reducible refine ⟨_, isi_str_int, ?_⟩
  | with_reducible refine ⟨_, isi_str_bool, ?_⟩
  | with_reducible refine ⟨_, isi_str_str, ?_⟩
  | with_reducible refine ⟨_, isi_str_tuple, ?_⟩
  | with_reducible refine ⟨_, isi_bool_int, ?_⟩
  | with_reducible refine ⟨_, isi_bool_bool, ?_⟩
  | with_reducible refine ⟨_, isi_bool_str, ?_⟩
  | with_reducible refine ⟨_, isi_bool_tuple, ?_⟩
  | with_reducible refine ⟨_, isi_none_int, ?_⟩
  | with_reducible refine ⟨_, isi_none_bool, ?_⟩
  | with_reducible refine ⟨_, isi_none_str, ?_⟩
  | with_reducible refine ⟨_, isi_none_tuple, ?_⟩
  | with_reducible refine ⟨_, isi_list_int, ?_⟩
  | with_reducible refine ⟨_, isi_list_bool, ?_⟩
  | with_reducible refine ⟨_, isi_list_str, ?_⟩
  | with_reducible refine ⟨_, isi_list_tuple, ?_⟩
  | with_reducible refine ⟨true, rfl, fun _ => ?_, fun h => absurd h (by decide)⟩
  | with_reducible refine ⟨false, rfl, fun h => absurd h (by decide), fun _ => ?_⟩
  | (fail_if_success with_reducible refine mul_shape ?_); (fail_if_success with_reducible refine mul2_shape ?_); with_reducible refine ⟨_, rfl, fun hb => ?_, fun hb => ?_⟩
  | (fail_if_success with_reducible refine mul_shape ?_); (fail_if_success with_reducible refine mul2_shape ?_); with_reducible refine ⟨_, rfl, ?_⟩
  | with_reducible refine ⟨fun hb => ?_, fun hb => ?_⟩
  | with_reducible exact ⟨rfl, rfl⟩
  | with_reducible refine ⟨(rfl : isLst _ = true), ?_⟩)
/-! ## towers, of any value -/
def nmOf : D → Str
  | .tuple [.str x, _, _] => x
  | _ => ""
def plOf : D → Int
  | .tuple [_, .int p, _] => p
  | _ => 0
def risB (xs : List Str) : Bool := (xs.zip (xs.drop 1)).all fun p => decide (strLt p.1 p.2)
def uniqB (ps : List Int) : Bool := ps.all fun p => decide (((ps.count p : Nat) : Int) = 1)
def towersB (n : Nat) : D → Bool
  | .tuple l => (decide (l.length ≤ 24) && l.all (towerD n)) && (risB (l.map nmOf) && uniqB (l.map plOf))
  | _ => false
theorem is_rising_gen {xs : List Str} (hs : ∀ x ∈ xs, PyData.strOk x = true) (cp : Cup) : m_is_rising [.list (xs.map .str)] cp = .ok (.bool (risB xs)) cp := by
  refine wp_of ?_
  unfold m_is_rising
  repeat walk_at "w"
  rw [cut_drop1]
  have e : zipL (xs.map PyData.str) ((xs.map PyData.str).drop 1) = (xs.zip (xs.drop 1)).map fun p => .tuple [.str p.1, .str p.2] := by
    unfold zipL
    rw [← List.map_drop, List.zip_map, List.map_map]
    rfl
  rw [e]
  refine w_eq (lcGo_mapA (l := xs.zip (xs.drop 1)) (ee := fun p => .bool (decide (strLt p.1 p.2))) fun p hp => ⟨_, rfl, fun cp => wp_of ?_⟩) ?_
  · repeat walk_at "w"
    exact ⟨_, dLt_ss (hs _ (List.of_mem_zip hp).1) (hs _ (List.mem_of_mem_drop (List.of_mem_zip hp).2)), rfl, rfl⟩
  repeat walk_at "w"
  exact ⟨_, bAll_map _ _, rfl, rfl⟩
theorem tower_is {n : Nat} {d : D} (h : towerD n d = true) (k : d.canLay0 = true) : ∃ t : Tw, d = tw t ∧ PyData.strOk t.1 = true := by
  unfold towerD at h
  split at h
  · rename_i a b c
    rw [Bool.and_eq_true, Bool.and_eq_true] at h
    obtain ⟨h1, h2, h3⟩ := h
    cases a with
    | str x =>
      cases b with
      | int p =>
        cases c with
        | int m =>
          refine ⟨(x, p, m), rfl, ?_⟩
          have := lay_mem k (.str x) (by simp)
          rw [PyData.canLay0] at this
          exact this
        | _ => cases h3
      | _ => cases h2
    | _ => cases h1
  · cases h
theorem towers_are {n : Nat} : ∀ {l : List D}, l.all (towerD n) = true → (∀ d ∈ l, d.canLay0 = true) → ∃ ts : List Tw, l = ts.map tw ∧ ∀ t ∈ ts, PyData.strOk t.1 = true
  | [], _, _ => ⟨[], rfl, fun t h => by cases h⟩
  | d :: l, h, k => by
    rw [List.all_cons, Bool.and_eq_true] at h
    obtain ⟨t, rfl, ht⟩ := tower_is h.1 (k d List.mem_cons_self)
    obtain ⟨ts, rfl, hts⟩ := towers_are h.2 fun e he => k e (List.mem_cons_of_mem _ he)
    refine ⟨t :: ts, rfl, fun u hu => ?_⟩
    rcases List.mem_cons.mp hu with rfl | hu
    · exact ht
    · exact hts u hu
theorem tup_dec {l : List D} : tupD 0 24 (.tuple l) = decide (l.length ≤ 24) := by
  show (decide ((0 : Int) ≤ l.length) && decide ((l.length : Int) ≤ 24)) = _
  rw [decide_eq_true (by omega), Bool.true_and]
  exact decide_eq_decide.mpr (by omega)
theorem fits_towers_any {hs : List Int} {v : D} (h : v.canLay0 = true) (cp : Cup) : m_fits_towers [C hs, v] cp = .ok (.bool (towersB hs.length v)) cp := by
  refine wp_of ?_
  unfold m_fits_towers
  repeat walk_at "w"
  refine w_eq (is_tuple_any h _) ?_
  cases v with
  | tuple l =>
    have eT : towersB hs.length (.tuple l) = ((decide (l.length ≤ 24) && l.all (towerD hs.length)) && (risB (l.map nmOf) && uniqB (l.map plOf))) := rfl
    rw [eT, tup_dec]
    cases decide (l.length ≤ 24) with
    | false => repeat walk_at "w"
    | true =>
      repeat walk_at "w"
      refine w_eq (lcGo_pure (tt := fun _ => true) (ee := fun d => .bool (towerD hs.length d)) fun d hd => ⟨_, rfl, fun cp => ⟨rfl, fun _ => wp_of ?_⟩⟩) ?_
      · repeat walk_at "w"
        exact w_eq (fits_tower_any (lay_mem h d hd) _) ⟨rfl, rfl⟩
      rw [List.filter_eq_self.mpr fun _ _ => rfl]
      repeat walk_at "w"
      refine ⟨_, bAll_map _ _, ?_⟩
      cases hA : l.all (towerD hs.length) with
      | false => repeat walk_at "w"
      | true =>
        obtain ⟨ts, rfl, hok⟩ := towers_are hA (lay_mem h)
        have e1 : (ts.map tw).map nmOf = ts.map (·.1) := by rw [List.map_map]; rfl
        have e2 : (ts.map tw).map plOf = ts.map (·.2.1) := by rw [List.map_map]; rfl
        rw [e1, e2]
        repeat walk_at "w"
        refine w_eq (lcGo_mapA (l := ts) (ee := fun t => .int t.2.1) fun t ht => ⟨_, rfl, fun cp => wp_of ?_⟩) ?_
        · repeat walk_at "w"
        have e3 : ts.map (fun t => PyData.int t.2.1) = (ts.map (·.2.1)).map .int := by rw [List.map_map]; rfl
        rw [e3]
        repeat walk_at "w"
        refine w_eq (lcGo_mapA (l := ts) (ee := fun t => .str t.1) fun t ht => ⟨_, rfl, fun cp => wp_of ?_⟩) ?_
        · repeat walk_at "w"
        have e4 : ts.map (fun t => PyData.str t.1) = (ts.map (·.1)).map .str := by rw [List.map_map]; rfl
        rw [e4]
        repeat walk_at "w"
        refine w_eq (is_rising_gen (fun x hx => by
          obtain ⟨t, ht, rfl⟩ := List.mem_map.mp hx
          exact hok t ht) _) ?_
        cases risB (ts.map (·.1)) with
        | false => repeat walk_at "w"
        | true =>
          repeat walk_at "w"
          refine w_eq (lcGo_mapA (l := ts.map (·.2.1)) (ee := fun p => .bool (decide ((((ts.map (·.2.1)).count p : Nat) : Int) = 1))) fun p hp => ⟨_, rfl, fun cp => wp_of ?_⟩) ?_
          · repeat walk_at "w"
            refine ⟨_, count_ints _ _, ?_⟩
            repeat walk_at "w"
          repeat walk_at "w"
          exact ⟨_, bAll_map _ _, rfl, rfl⟩
  | _ => repeat walk_at "w"
end MP.SI
namespace MP
open PySem PySem.Spec PyProof.Rows L2
/-! the rest, by any number but 0 -/
def dModN : D → D → Option D := dInt fun i j => if decide (j ≠ 0) then some (.int (i.fmod j)) else none
section
variable {X : Cx}
theorem ops_modN : OpS X (binaryOp .Mod) dModN := ops_int op_modN fun i j d e => by
  obtain ⟨h, rfl⟩ := if_some e
  exact ⟨of_decide_eq_true h, fun F => .int _, rfl⟩
end
end MP
namespace MP
open PySem PySem.Spec PyProof.Rows L2

/-! ## comprehensions with two clauses -/
def lcGo2 (vs1 : List Nat) (g : Tg) (t : Ev) (src1 : Evs) (g1 : Tg) (t1 e : Ev) (env : Env) : List D → Cup → Res (List D)
  | [], cp => .ok [] cp
  | d :: ds, cp => match g d env with
    | none => .bad
    | some env' => (nE (t env' cp)).bind fun b cp1 => match b with
      | .bool true => (nE (src1 env' cp1)).bind fun ds1 cp2 => (lcGo g1 t1 e (wipeE env' vs1) ds1 cp2).bind fun ys cp3 => (lcGo2 vs1 g t src1 g1 t1 e env ds cp3).bind fun zs cp4 => .ok (ys ++ zs) cp4
      | .bool false => lcGo2 vs1 g t src1 g1 t1 e env ds cp1
      | _ => .bad
def retL (out : List D) (cp : Cup) : Res D := if okLen out.length then .ok (.list out) cp else .bad
def eLc2 (own vs1 : List Nat) (g : Tg) (src : Evs) (t : Ev) (g1 : Tg) (src1 : Evs) (t1 e : Ev) : Ev := fun env cp => (src env cp).bind fun ds cp1 => (lcGo2 vs1 g t src1 g1 t1 e (wipeE env own) ds cp1).bind retL
theorem nE_noerr {α : Type} (r : Res α) : ∀ x cp, nE r ≠ .err x cp := by
  intro x cp h
  cases r <;> cases h
theorem bind_noerr {α β : Type} {r : Res α} {f : α → Cup → Res β} (h : ∀ x cp, r ≠ .err x cp) (k : ∀ a c x cp, f a c ≠ .err x cp) : ∀ x cp, r.bind f ≠ .err x cp := by
  intro x cp e
  cases r with
  | ok a c => exact k a c x cp e
  | err y c => exact h y c rfl
  | bad => cases e
theorem lcGo_noerr {g : Tg} {t e : Ev} {env : Env} : ∀ (ds : List D) (cp : Cup) (x : Str) (cp' : Cup), lcGo g t e env ds cp ≠ .err x cp'
  | [], cp, x, cp' => by intro h; cases h
  | d :: ds, cp, x, cp' => by
    rw [lcGo]
    split
    · intro h; cases h
    · refine bind_noerr (nE_noerr _) (fun b c => ?_) x cp'
      split
      · exact bind_noerr (nE_noerr _) (fun y c => bind_noerr (lcGo_noerr ds c) fun ys c x cp h => by cases h)
      · exact lcGo_noerr ds c
      · intro x cp h; cases h
theorem lcGo2_noerr {vs1 : List Nat} {g g1 : Tg} {t t1 e : Ev} {src1 : Evs} {env : Env} : ∀ (ds : List D) (cp : Cup) (x : Str) (cp' : Cup), lcGo2 vs1 g t src1 g1 t1 e env ds cp ≠ .err x cp'
  | [], cp, x, cp' => by intro h; cases h
  | d :: ds, cp, x, cp' => by
    rw [lcGo2]
    split
    · intro h; cases h
    · refine bind_noerr (nE_noerr _) (fun b c => ?_) x cp'
      split
      · exact bind_noerr (nE_noerr _) (fun y c => bind_noerr (lcGo_noerr _ c) fun ys c => bind_noerr (lcGo2_noerr ds c) fun zs c x cp h => by cases h)
      · exact lcGo2_noerr ds c
      · intro x cp h; cases h
theorem Aft.noerr {α β : Type} {E : Str → Hp → Prop} {c : Addr} {W : Addr → Prop} {F H : Hp} {r : Res α} {f : α → Cup → Res β} {Q : β → Cup → Hp → Hp → Prop} (h : Aft E c W F H (r.bind f) Q) (k : ∀ x cp, r ≠ .err x cp) : ∃ a cp, r = .ok a cp ∧ Aft E c W F H (f a cp) Q := by
  cases r with
  | ok a cp => exact ⟨a, cp, rfl, h⟩
  | err x cp => exact absurd rfl (k x cp)
  | bad => exact h.elim
theorem retL_len {E : Str → Hp → Prop} {c : Addr} {W : Addr → Prop} {F H : Hp} {out : List D} {cp : Cup} {Q : D → Cup → Hp → Hp → Prop} (h : Aft E c W F H (retL out cp) Q) : out.length ≤ sizeLine ∧ Aft E c W F H (.ok (.list out) cp) Q := by
  unfold retL at h
  split at h
  · rename_i k; exact ⟨okLen_le k, h⟩
  · exact h.elim
/-- where all stays but the cup and the new list -/
theorem Pre.at {K : MpK} {ci : Option Nat} {O : List Nat} {c Dn : Addr} {W : Addr → Prop} {A : Nat → Option Addr} {env : Env} {cp cp' : Cup} {F F' : Hp} {σ : L2.St} {H H' : Hp} (p : Pre K ci O c W A env cp F σ H)
    (nd : ∀ i a, i ∈ O → A i = some a → a ≠ Dn) (f : Same F F') (st : Sit c W F' H') (h : ∀ b o, b ≠ c → b ≠ Dn → H b = some o → H' b = some o) (e : H' c = some (cupV cp')) : Pre K ci O c W A env cp' F' σ H' where
  sub := st.sub
  cup := e
  wc := p.wc
  wh := st.wh
  wf := st.wf
  sl := fun i d h1 h2 => by
    obtain ⟨v, h3, h4⟩ := p.sl i d h1 h2
    exact ⟨v, h3, h4.mono f⟩
  ow := fun i d a h1 h2 h3 => by
    obtain ⟨q1, q2, q3, q4⟩ := p.ow i d a h1 h2 h3
    exact ⟨q1, q2.mono f (fun o => h a o q4 (nd i a h2 h3)), q3, q4⟩
  bx := p.bx
  dj := p.dj
  aw := p.aw
  cs := p.cs
  ln := p.ln
section
variable {X : Cx} {z : Z} {O : List Nat}
theorem lc_go2 {own vs1 gs gs1 : List Nat} {g g1 : Tg} {fs fs1 : Evs} {ft ft1 fe : Ev} (hgs : ∀ i ∈ gs, i ∈ own) (hgs1 : ∀ i ∈ gs1, i ∈ vs1) (hv : ∀ i ∈ vs1, i ∈ own) (hci : ∀ i, z.ci = some i → i ∉ own) : ∀ σ H Q, tFr X.kk z O (eLc2 own vs1 g fs ft g1 fs1 ft1 fe) σ H Q →
    tLc2 (tSrc X.kk z O fs) (tTg X.kk z.in (O.filter fun i => decide (i ∉ own)) gs g) (tTv X.kk z.in (O.filter fun i => decide (i ∉ own)) ft) (tSrcF X.kk z.in (O.filter fun i => decide (i ∉ own)) fs1) (tTg X.kk z.in (O.filter fun i => decide (i ∉ own)) gs1 g1) (tTv X.kk z.in (O.filter fun i => decide (i ∉ own)) ft1) (tEv X.kk z.in (O.filter fun i => decide (i ∉ own)) fe) own vs1 σ H Q := by
  rintro σ H0 Q ⟨c, W, A, env, cp, F0, p0, q⟩
  refine ⟨c, W, A, env, cp, F0, p0, (Aft.bind q).imp fun ds cp1 F H s0 e0 q J sj Dn hD => ?_⟩
  have p := p0.step s0 e0
  have q : Aft z.E c W F H ((lcGo2 vs1 g ft fs1 g1 ft1 fe (wipeE env own) ds cp1).bind retL) fun d _ F' H' => ∀ v, Fr X.kk H F' H' v d → Q v H' := q.imp fun _ _ _ _ _ _ k v r => k v (r.back s0 e0)
  have sN : Stp c W F H F (upd H Dn (.lst [])) := p.sit.new hD
  have cN : (upd H Dn (.lst [])) c = some (cupV cp1) := (p.sit.keepc hD).trans e0
  have fD : F Dn = none := p.sit.free hD
  have hDc : Dn ≠ c := fun e => by rw [e, e0] at hD; cases hD
  let O' := O.filter fun i => decide (i ∉ own)
  have hO' : (O'.filter fun i => decide (i ∉ vs1)) = O' := by
    refine List.filter_eq_self.mpr fun i hi => ?_
    have := (List.mem_filter.mp hi).2
    simp only [decide_eq_true_eq] at this ⊢
    exact fun h => this (hv i h)
  let W' : Addr → Prop := fun b => W b ∨ b = Dn
  have hW' : ∀ b, W b → W' b := fun b h => .inl h
  have ndO : ∀ i a, i ∈ O' → A i = some a → a ≠ Dn := fun i a hi ha e => by
    obtain ⟨o, ho⟩ := p.wh a (p.aw i a (List.mem_filter.mp hi).1 ha)
    rw [e, hD] at ho
    cases ho
  -- the invariant
  let Inv : Nat → Hp → Prop := fun i H2 => ∃ F2 cp2 vs done, Stp c W F H F2 H2 ∧ Sit c W' F2 H2 ∧ H2 c = some (cupV cp2) ∧ H2 Dn = some (.lst vs) ∧ RpA X.kk F2 vs done ∧
    Aft z.E c W F H ((lcGo2 vs1 g ft fs1 g1 ft1 fe (wipeE env own) (ds.drop i) cp2).bind fun out cp3 => retL (done ++ out) cp3) fun d _ F' H' => ∀ v, Fr X.kk H F' H' v d → Q v H'
  refine ⟨fun i m H2 => m = ds.length - i ∧ i ≤ ds.length ∧ Inv i H2, ⟨ds.length, by simp, Nat.zero_le _, F, cp1, [], [], sN, ?_, cN, upd_same, .nil, q⟩, ?_⟩
  · refine ⟨sN.sub, .inl p.wc, fun b hb => ?_, fun b hb => ?_⟩
    · rcases hb with hb | rfl
      · exact (p.step sN cN).wh b hb
      · exact ⟨_, upd_same⟩
    · rcases hb with hb | rfl
      · exact p.wf b hb
      · exact fD
  · rintro i m H2 ⟨rfl, hi, F2, cp2, vs, done, s2, st2, c2, hv2, rv, q2⟩
    by_cases hlt : i < ds.length
    · refine .inr ⟨sj.go i F2 H2 s2 hlt, Inv (i + 1), fun H' h => ⟨ds.length - (i + 1), by omega, rfl, hlt, h⟩, fun x H3 hy => ?_⟩
      obtain ⟨d, hd⟩ : ∃ d, ds[i]? = some d := ⟨ds[i], by simp [hlt]⟩
      obtain ⟨F3, s3, k3, r3⟩ := sj.yld W' i F2 H2 H3 x d s2 st2 hd hy
      have hdrop : ds.drop i = d :: ds.drop (i + 1) := by
        rw [List.drop_eq_getElem_cons hlt]
        obtain ⟨h1, h2⟩ := List.getElem?_eq_some_iff.mp hd
        rw [h2]
      rw [hdrop] at q2
      have c3 : H3 c = some (cupV cp2) := k3.trans c2
      have st3 : Sit c W' F3 H3 := st2.step s3 c3
      have p3 : Pre X.kk z.ci (O.filter fun i => decide (i ∉ own)) c W' A (wipeE env own) cp2 F3 (wipe σ own) H3 := (((p.step s2 c2).step (s3.weak hW') c3).wipe own hci).more hW' st3
      -- the target
      cases hg : g d (wipeE env own) with
      | none =>
        have : lcGo2 vs1 g ft fs1 g1 ft1 fe (wipeE env own) (d :: ds.drop (i + 1)) cp2 = .bad := by rw [lcGo2, hg]
        rw [this] at q2
        exact q2.elim
      | some env' =>
        have e4 : lcGo2 vs1 g ft fs1 g1 ft1 fe (wipeE env own) (d :: ds.drop (i + 1)) cp2 = (nE (ft env' cp2)).bind fun b cp1 => match b with
            | .bool true => (nE (fs1 env' cp1)).bind fun ds1 cp2 => (lcGo g1 ft1 fe (wipeE env' vs1) ds1 cp2).bind fun ys cp3 => (lcGo2 vs1 g ft fs1 g1 ft1 fe (wipeE env own) (ds.drop (i + 1)) cp3).bind fun zs cp4 => .ok (ys ++ zs) cp4
            | .bool false => lcGo2 vs1 g ft fs1 g1 ft1 fe (wipeE env own) (ds.drop (i + 1)) cp1
            | _ => .bad := by rw [lcGo2, hg]
        rw [e4, Res.bind_assoc] at q2
        refine ⟨c, W', A, wipeE env own, cp2, F3, d, env', p3, r3, hg, fun σ' p4 off => ⟨wipe_off ⟨off.1, fun j hj => off.2 j fun z => hj (hgs j z)⟩, ?_⟩⟩
        -- the test
        have hDn : ∀ {F4 H4 : Hp}, Stp c W' F3 H3 F4 H4 → H4 Dn = some (.lst vs) := fun s4 => s4.h Dn _ hDc (s3.h Dn _ hDc hv2)
        refine ⟨c, W', A, env', cp2, F3, p4, (aft_okA q2).imp fun b cp3 F4 H4 s4 c4 q4 b' hb => ?_⟩
        subst hb
        have s24 := s2.trans ((s3.trans s4).weak hW')
        cases b' with
        | false => exact iteF ⟨F4, cp3, vs, done, s24, st3.step s4 c4, c4, hDn s4, rv.mono (s3.f.trans s4.f), q4⟩
        | true =>
          have q4 : Aft z.E c W F H (((nE (fs1 env' cp3)).bind fun ds1 cp2 => (lcGo g1 ft1 fe (wipeE env' vs1) ds1 cp2).bind fun ys cp3 => (lcGo2 vs1 g ft fs1 g1 ft1 fe (wipeE env own) (ds.drop (i + 1)) cp3).bind fun zs cp4 => .ok (ys ++ zs) cp4).bind fun out cp3 => retL (done ++ out) cp3) fun d _ F' H' => ∀ v, Fr X.kk H F' H' v d → Q v H' := q4
          rw [Res.bind_assoc] at q4
          refine iteT ⟨c, W', A, env', cp3, F4, p4.step s4 c4, (aft_okA q4).imp fun ds1 cp5 F5 H5 s5 c5 q5 J1 sj1 => ?_⟩
          -- the inner loop: all but the cup and the new list stays as at (F5, H5)
          have st5 : Sit c W' F5 H5 := (st3.step s4 c4).step s5 c5
          have s25 := s24.trans (s5.weak hW')
          have p5 : Pre X.kk z.ci O' c W' A env' cp5 F5 σ' H5 := (p4.step s4 c4).step s5 c5
          let Inv1 : Nat → Hp → Prop := fun j H6 => ∃ F6 cp6 vs6 done6, Stp c W F H F6 H6 ∧ Same F5 F6 ∧ Sit c W' F6 H6 ∧ (∀ b o, b ≠ c → b ≠ Dn → H5 b = some o → H6 b = some o) ∧ H6 c = some (cupV cp6) ∧ H6 Dn = some (.lst vs6) ∧ RpA X.kk F6 vs6 done6 ∧
            Aft z.E c W F H ((lcGo g1 ft1 fe (wipeE env' vs1) (ds1.drop j) cp6).bind fun ys cp7 => (lcGo2 vs1 g ft fs1 g1 ft1 fe (wipeE env own) (ds.drop (i + 1)) cp7).bind fun zs cp8 => retL (done6 ++ (ys ++ zs)) cp8) fun d _ F' H' => ∀ v, Fr X.kk H F' H' v d → Q v H'
          have q5' : Aft z.E c W F H ((lcGo g1 ft1 fe (wipeE env' vs1) ds1 cp5).bind fun ys cp7 => (lcGo2 vs1 g ft fs1 g1 ft1 fe (wipeE env own) (ds.drop (i + 1)) cp7).bind fun zs cp8 => retL (done ++ (ys ++ zs)) cp8) fun d _ F' H' => ∀ v, Fr X.kk H F' H' v d → Q v H' := by
            have q5 : Aft z.E c W F H (((lcGo g1 ft1 fe (wipeE env' vs1) ds1 cp5).bind fun ys cp3 => (lcGo2 vs1 g ft fs1 g1 ft1 fe (wipeE env own) (ds.drop (i + 1)) cp3).bind fun zs cp4 => .ok (ys ++ zs) cp4).bind fun out cp3 => retL (done ++ out) cp3) fun d _ F' H' => ∀ v, Fr X.kk H F' H' v d → Q v H' := q5
            rw [Res.bind_assoc] at q5
            have e6 : (fun (a : List D) (c : Cup) => (((lcGo2 vs1 g ft fs1 g1 ft1 fe (wipeE env own) (ds.drop (i + 1)) c).bind fun zs cp4 => Res.ok (a ++ zs) cp4).bind fun out cp3 => retL (done ++ out) cp3)) = fun ys cp7 => (lcGo2 vs1 g ft fs1 g1 ft1 fe (wipeE env own) (ds.drop (i + 1)) cp7).bind fun zs cp8 => retL (done ++ (ys ++ zs)) cp8 := by
              funext a c
              rw [Res.bind_assoc]
              rfl
            rw [e6] at q5
            exact q5
          refine ⟨fun j k H6 => k = ds1.length - j ∧ j ≤ ds1.length ∧ Inv1 j H6, ⟨ds1.length, by simp, Nat.zero_le _, F5, cp5, vs, done, s25, Same.refl _, st5, fun _ _ _ _ h => h, c5, hDn (s4.trans s5), rv.mono ((s3.f.trans s4.f).trans s5.f), q5'⟩, ?_⟩
          rintro j k H6 ⟨rfl, hj, F6, cp6, vs6, done6, s6, f6, st6, h6, c6, hv6, rv6, q6⟩
          by_cases hlj : j < ds1.length
          · refine .inr ⟨sj1.go j F6 H6 f6 st6.sub hlj, Inv1 (j + 1), fun H' h => ⟨ds1.length - (j + 1), by omega, rfl, hlj, h⟩, fun x1 H7 hy1 => ?_⟩
            obtain ⟨d1, hd1⟩ : ∃ d, ds1[j]? = some d := ⟨ds1[j], by simp [hlj]⟩
            obtain ⟨F7, s7, k7, r7⟩ := sj1.yld W' j F6 H6 H7 x1 d1 f6 st6 hd1 hy1
            have hdrop1 : ds1.drop j = d1 :: ds1.drop (j + 1) := by
              rw [List.drop_eq_getElem_cons hlj]
              obtain ⟨h1, h2⟩ := List.getElem?_eq_some_iff.mp hd1
              rw [h2]
            rw [hdrop1] at q6
            have c7 : H7 c = some (cupV cp6) := k7.trans c6
            have st7 : Sit c W' F7 H7 := st6.step s7 c7
            have h7 : ∀ b o, b ≠ c → b ≠ Dn → H5 b = some o → H7 b = some o := fun b o n1 n2 e => s7.h b o n1 (h6 b o n1 n2 e)
            have f7 : Same F5 F7 := f6.trans s7.f
            have p7 : Pre X.kk z.ci O' c W' A env' cp6 F7 σ' H7 := p5.at ndO f7 st7 h7 c7
            have p8 : Pre X.kk z.ci O' c W' A (wipeE env' vs1) cp6 F7 (wipe σ' vs1) H7 := by
              have := p7.wipe vs1 (fun i h z => hci i h (hv i z))
              rw [hO'] at this
              exact this
            cases hg1 : g1 d1 (wipeE env' vs1) with
            | none =>
              have : lcGo g1 ft1 fe (wipeE env' vs1) (d1 :: ds1.drop (j + 1)) cp6 = .bad := by rw [lcGo, hg1]
              rw [this] at q6
              exact q6.elim
            | some env1 =>
              have e7 : lcGo g1 ft1 fe (wipeE env' vs1) (d1 :: ds1.drop (j + 1)) cp6 = (nE (ft1 env1 cp6)).bind fun b cp1 => match b with
                  | .bool true => (nE (fe env1 cp1)).bind fun y cp2 => (lcGo g1 ft1 fe (wipeE env' vs1) (ds1.drop (j + 1)) cp2).bind fun ys cp3 => .ok (y :: ys) cp3
                  | .bool false => lcGo g1 ft1 fe (wipeE env' vs1) (ds1.drop (j + 1)) cp1
                  | _ => .bad := by first | (rw [lcGo, hg1]; done) | (rw [lcGo, hg1]; rfl)
              rw [e7, Res.bind_assoc] at q6
              refine ⟨c, W', A, wipeE env' vs1, cp6, F7, d1, env1, p8, r7, hg1, fun σ1 p9 off1 => ⟨wipe_off ⟨off1.1, fun j hj => off1.2 j fun z => hj (hgs1 j z)⟩, ?_⟩⟩
              have s27 := s6.trans (s7.weak hW')
              refine ⟨c, W', A, env1, cp6, F7, p9, (aft_okA q6).imp fun b cp8 F8 H8 s8 c8 q8 b' hb => ?_⟩
              subst hb
              have s28 := s27.trans (s8.weak hW')
              have h8 : ∀ b o, b ≠ c → b ≠ Dn → H5 b = some o → H8 b = some o := fun b o n1 n2 e => s8.h b o n1 (h7 b o n1 n2 e)
              have st8 := st7.step s8 c8
              have hv8 : H8 Dn = some (.lst vs6) := s8.h Dn _ hDc (s7.h Dn _ hDc hv6)
              cases b' with
              | false => exact iteF ⟨F8, cp8, vs6, done6, s28, f7.trans s8.f, st8, h8, c8, hv8, rv6.mono (s7.f.trans s8.f), q8⟩
              | true =>
                refine iteT ⟨c, W', A, env1, cp8, F8, p9.step s8 c8, ?_⟩
                have q8 : Aft z.E c W F H (((nE (fe env1 cp8)).bind fun y cp2 => (lcGo g1 ft1 fe (wipeE env' vs1) (ds1.drop (j + 1)) cp2).bind fun ys cp3 => .ok (y :: ys) cp3).bind fun ys cp7 => (lcGo2 vs1 g ft fs1 g1 ft1 fe (wipeE env own) (ds.drop (i + 1)) cp7).bind fun zs cp8 => retL (done6 ++ (ys ++ zs)) cp8) fun d _ F' H' => ∀ v, Fr X.kk H F' H' v d → Q v H' := q8
                rw [Res.bind_assoc] at q8
                refine (aft_okA q8).imp fun y cp9 F9 H9 s9 c9 q9 yv ry => ?_
                have st9 : Sit c W' F9 H9 := st8.step s9 c9
                have f9 : F9 Dn = none := st9.wf Dn (.inr rfl)
                have s29 := s28.trans (s9.weak hW')
                have q9 : Aft z.E c W F H (((lcGo g1 ft1 fe (wipeE env' vs1) (ds1.drop (j + 1)) cp9).bind fun ys cp3 => .ok (y :: ys) cp3).bind fun ys cp7 => (lcGo2 vs1 g ft fs1 g1 ft1 fe (wipeE env own) (ds.drop (i + 1)) cp7).bind fun zs cp8 => retL (done6 ++ (ys ++ zs)) cp8) fun d _ F' H' => ∀ v, Fr X.kk H F' H' v d → Q v H' := q9
                rw [Res.bind_assoc] at q9
                have hl : vs6.length < sizeLine := by
                  obtain ⟨ys, cpa, _, qa⟩ := Aft.noerr q9 (lcGo_noerr _ _)
                  obtain ⟨zs, cpb, _, qb⟩ := Aft.noerr (show Aft z.E c W F H ((lcGo2 vs1 g ft fs1 g1 ft1 fe (wipeE env own) (ds.drop (i + 1)) cpa).bind fun zs cp8 => retL (done6 ++ ((y :: ys) ++ zs)) cp8) _ from qa) (lcGo2_noerr _ _)
                  have := (retL_len qb).1
                  rw [rv6.length]
                  rw [List.length_append, List.cons_append, List.length_cons] at this
                  omega
                refine ⟨vs6, s9.h Dn _ hDc hv8, hl, ?_⟩
                have c9' : (upd H9 Dn (HO.lst (vs6 ++ [yv]))) c = some (cupV cp9) := by rw [upd_ne hDc.symm]; exact c9
                refine ⟨F9, cp9, vs6 ++ [yv], done6 ++ [y], s29.atNew hD f9, (f7.trans s8.f).trans s9.f, ⟨(s29.atNew hD f9).sub, st9.wc, fun b hb => ?_, st9.wf⟩, fun b o n1 n2 e => ?_, c9', upd_same, (rv6.mono ((s7.f.trans s8.f).trans s9.f)).append (.cons ry .nil), ?_⟩
                · by_cases hb2 : b = Dn
                  · subst hb2; exact ⟨_, upd_same⟩
                  · obtain ⟨o, ho⟩ := st9.wh b hb
                    exact ⟨o, by rw [upd_ne hb2]; exact ho⟩
                · rw [upd_ne n2]
                  exact s9.h b o n1 (h8 b o n1 n2 e)
                · have e9 : (fun (a : List D) (c : Cup) => ((Res.ok (y :: a) c).bind fun ys cp7 => (lcGo2 vs1 g ft fs1 g1 ft1 fe (wipeE env own) (ds.drop (i + 1)) cp7).bind fun zs cp8 => retL (done6 ++ (ys ++ zs)) cp8)) = fun ys cp7 => (lcGo2 vs1 g ft fs1 g1 ft1 fe (wipeE env own) (ds.drop (i + 1)) cp7).bind fun zs cp8 => retL ((done6 ++ [y]) ++ (ys ++ zs)) cp8 := by
                    funext a c
                    show (lcGo2 vs1 g ft fs1 g1 ft1 fe (wipeE env own) (ds.drop (i + 1)) c).bind (fun zs cp8 => retL (done6 ++ ((y :: a) ++ zs)) cp8) = _
                    congr 1
                    funext zs cp8
                    rw [List.append_assoc]
                    rfl
                  rw [e9] at q9
                  exact q9
          · have e : j = ds1.length := by omega
            subst e
            refine .inl ⟨sj1.stop F6 H6 f6 st6.sub, F6, cp6, vs6, done6, s6, st6, c6, hv6, rv6, ?_⟩
            rw [List.drop_length] at q6
            exact q6
    · have e : i = ds.length := by omega
      subst e
      refine .inl ⟨sj.stop F2 H2 s2, ?_⟩
      rw [List.drop_length] at q2
      have q2 : Aft z.E c W F H (retL (done ++ []) cp2) fun d _ F' H' => ∀ v, Fr X.kk H F' H' v d → Q v H' := q2
      obtain ⟨hl, q2⟩ := retL_len q2
      rw [List.append_nil] at hl q2
      exact q2 F2 H2 s2 c2 _ (.inr ⟨Dn, rfl, hD, st2.wf Dn (.inr rfl), vs, hv2, by rw [rv.length]; exact hl, rv⟩)
theorem q_lc2 {elt tg iter tg1 iter1 : Expr} {ifs ifs1 : List Expr} {scope : Scope} {own : List (Str × Nat)} {vs1 : List Nat} {pos : Pos} {gs gs1 : List Nat} {g g1 : Tg} {fs fs1 : Evs} {ft ft1 fe : Ev} (hc : X.calm = true) (hN : X.N.Nodup) (hi : QI X z O tg iter fs) (ok : BlkOk X.N X.env.scope scope own)
    (hg : ∀ (s : Shared) (H : Hp) (C : Addr) (cl : List (Str × Addr)) (fp : List Addr), QG (X.blk s H scope (compEnvC scope cl C X.env) fp) z.in (O.filter fun i => decide (i ∉ own.map (·.2))) tg gs g)
    (ht : ∀ (s : Shared) (H : Hp) (C : Addr) (cl : List (Str × Addr)) (fp : List Addr), QTs (X.blk s H scope (compEnvC scope cl C X.env) fp) z.in (O.filter fun i => decide (i ∉ own.map (·.2))) ifs ft)
    (hi1 : ∀ (s : Shared) (H : Hp) (C : Addr) (cl : List (Str × Addr)) (fp : List Addr), QJ (X.blk s H scope (compEnvC scope cl C X.env) fp) z.in (O.filter fun i => decide (i ∉ own.map (·.2))) tg1 iter1 fs1)
    (hg1 : ∀ (s : Shared) (H : Hp) (C : Addr) (cl : List (Str × Addr)) (fp : List Addr), QG (X.blk s H scope (compEnvC scope cl C X.env) fp) z.in (O.filter fun i => decide (i ∉ own.map (·.2))) tg1 gs1 g1)
    (ht1 : ∀ (s : Shared) (H : Hp) (C : Addr) (cl : List (Str × Addr)) (fp : List Addr), QTs (X.blk s H scope (compEnvC scope cl C X.env) fp) z.in (O.filter fun i => decide (i ∉ own.map (·.2))) ifs1 ft1)
    (he : ∀ (s : Shared) (H : Hp) (C : Addr) (cl : List (Str × Addr)) (fp : List Addr), QE (X.blk s H scope (compEnvC scope cl C X.env) fp) z.in (O.filter fun i => decide (i ∉ own.map (·.2))) elt fe)
    (hgs : ∀ i ∈ gs, i ∈ own.map (·.2) := by decide) (hgs1 : ∀ i ∈ gs1, i ∈ vs1 := by decide) (hv : ∀ i ∈ vs1, i ∈ own.map (·.2) := by decide) (hci : ∀ i, z.ci = some i → i ∉ own.map (·.2) := by intro i h; cases h <;> decide) (hs : ∀ x, foldedSetIterable iter X.env x = pure x := by intro _; rfl) (hs1 : ∀ env x, foldedSetIterable iter1 env x = pure x := by intro _ _; rfl) :
    QF X z O (.ListComp elt [⟨tg, iter, ifs, 0⟩, ⟨tg1, iter1, ifs1, 0⟩] scope pos) (eLc2 (own.map (·.2)) vs1 g fs ft g1 fs1 ft1 fe) :=
  ⟨PE.to (pe_lc2 hc hN hi.pi ok hv (fun s H C cl fp => (hg s H C cl fp).pg) (fun s H C cl fp => (ht s H C cl fp).pt) (fun s H C cl fp => (hi1 s H C cl fp).pi) (fun s H C cl fp => (hg1 s H C cl fp).pg) (fun s H C cl fp => (ht1 s H C cl fp).pt) (fun s H C cl fp => (he s H C cl fp).pe) hs hs1) (lc_go2 hgs hgs1 hv hci)⟩
end
section
variable {X : Cx} {z : Z} {L : List Nat} {O : List Nat}
/-- name = [.. for .. for ..] on one line, a local name -/
theorem q_setLc2 {i : Nat} {y : Str} {py : Pos} {elt tg iter tg1 iter1 : Expr} {ifs ifs1 : List Expr} {scope : Scope} {own : List (Str × Nat)} {vs1 : List Nat} {pos spos : Pos} {gs gs1 : List Nat} {g g1 : Tg} {fs fs1 : Evs} {ft ft1 fe : Ev} (hc : X.calm = true) (hN : X.N.Nodup) (hi : QI X z O tg iter fs) (ok : BlkOk X.N X.env.scope scope own)
    (hg : ∀ (s : Shared) (H : Hp) (C : Addr) (cl : List (Str × Addr)) (fp : List Addr), QG (X.blk s H scope (compEnvC scope cl C X.env) fp) z.in (O.filter fun i => decide (i ∉ own.map (·.2))) tg gs g)
    (ht : ∀ (s : Shared) (H : Hp) (C : Addr) (cl : List (Str × Addr)) (fp : List Addr), QTs (X.blk s H scope (compEnvC scope cl C X.env) fp) z.in (O.filter fun i => decide (i ∉ own.map (·.2))) ifs ft)
    (hi1 : ∀ (s : Shared) (H : Hp) (C : Addr) (cl : List (Str × Addr)) (fp : List Addr), QJ (X.blk s H scope (compEnvC scope cl C X.env) fp) z.in (O.filter fun i => decide (i ∉ own.map (·.2))) tg1 iter1 fs1)
    (hg1 : ∀ (s : Shared) (H : Hp) (C : Addr) (cl : List (Str × Addr)) (fp : List Addr), QG (X.blk s H scope (compEnvC scope cl C X.env) fp) z.in (O.filter fun i => decide (i ∉ own.map (·.2))) tg1 gs1 g1)
    (ht1 : ∀ (s : Shared) (H : Hp) (C : Addr) (cl : List (Str × Addr)) (fp : List Addr), QTs (X.blk s H scope (compEnvC scope cl C X.env) fp) z.in (O.filter fun i => decide (i ∉ own.map (·.2))) ifs1 ft1)
    (he : ∀ (s : Shared) (H : Hp) (C : Addr) (cl : List (Str × Addr)) (fp : List Addr), QE (X.blk s H scope (compEnvC scope cl C X.env) fp) z.in (O.filter fun i => decide (i ∉ own.map (·.2))) elt fe)
    (hyl : X.env.scope.names.lookup y = some .local := by rfl) (hsw : swapsWith (.ListComp elt [⟨tg, iter, ifs, 0⟩, ⟨tg1, iter1, ifs1, 0⟩] scope pos) (some (.Name y py)) spos.line X.env = pure true := by exact sw_true rfl rfl rfl (by decide +kernel))
    (hO : i ∉ O := by decide) (hz : z.ci ≠ some i := by intro h; cases h) (hy : X.N[i]? = some y := by rfl) (hgs : ∀ i ∈ gs, i ∈ own.map (·.2) := by decide) (hgs1 : ∀ i ∈ gs1, i ∈ vs1 := by decide) (hv : ∀ i ∈ vs1, i ∈ own.map (·.2) := by decide) (hci : ∀ i, z.ci = some i → i ∉ own.map (·.2) := by intro i h; cases h <;> decide) (hs : ∀ x, foldedSetIterable iter X.env x = pure x := by intro _; rfl) (hs1 : ∀ env x, foldedSetIterable iter1 env x = pure x := by intro _ _; rfl) :
    QS X z L O (.Assign [.Name y py] (.ListComp elt [⟨tg, iter, ifs, 0⟩, ⟨tg1, iter1, ifs1, 0⟩] scope pos) spos) (sSet i (eLc2 (own.map (·.2)) vs1 g fs ft g1 fs1 ft1 fe)) (i :: O) :=
  ⟨PS.to (ps_setLc2 hc hN hy hyl hsw hi.pi ok hv (fun s H C cl fp => (hg s H C cl fp).pg) (fun s H C cl fp => (ht s H C cl fp).pt) (fun s H C cl fp => (hi1 s H C cl fp).pi) (fun s H C cl fp => (hg1 s H C cl fp).pg) (fun s H C cl fp => (ht1 s H C cl fp).pt) (fun s H C cl fp => (he s H C cl fp).pe) hs hs1) fun Dn σ H ⟨c, W0, F0, H0, env, cp, ⟨W, A, F, p, h1, h2, h3, s0⟩, q⟩ =>
    lc_go2 hgs hgs1 hv hci σ H _ ⟨c, W, A, env, cp, F, p, (saft_e h1 s0 q).imp fun d cp1 F' H' s e q v r => q _ H' (PreS.setF p h1 h2 h3 s0 hO hz s e r)⟩⟩
end
end MP
namespace PySem.W
open PySem PySem.Calls PyProof.Rows
section
variable {prog : Program} {w : World} {A : Around} {E : Value → Shared → Prop} {s : Shared}
theorem mp_collect_tup {l : Addr} {vs : List Value} {Q : List Value → Shared → Prop} (hl : s.heap.IsTuple l vs.toArray)
    (h : Q vs { s with heap := (s.heap.push (seqObj "list" #[] 0)).update s.heap.objs.size (Obj.mapSeq (· ++ vs.toArray)) }) (hsz : vs.length ≤ sizeLine) :
    wpAny (model prog w) A (collect (.ref l)) Q E s := by
  obtain ⟨o, ho, hc, n, hd⟩ := id hl
  unfold collect
  refine wpAny_bind (wpAny_runValue (codeAny_builtin entry_proto_collect' ?_))
  show wpAny _ _ (do again (.builtin "list.__iadd__" ⟨[← newList [], .ref l], []⟩)) _ _ s
  refine wpAny_bind (wpAny_newList (wpAny_pure ⟨Code.quiet_builtin _ (by decide +kernel), codeAny_builtin entry_list_iadd' ?_⟩))
  show wpAny _ _ (Builtin.List.listExtendWith (.ref s.heap.objs.size) (.ref l) (.ref s.heap.objs.size)) _ _ { s with heap := s.heap.push (seqObj "list" #[] 0) }
  unfold Builtin.List.listExtendWith
  have ho' : (s.heap.push (seqObj "list" #[] 0)).get? l = some o := Heap.get?_push_of_some _ ho
  refine wpAny_bind (wpAny_typeOf (T := "tuple") ⟨o, ho', hc⟩ ?_)
  have ht : (Value.type "tuple" == Value.type "tuple") = true := by rfl
  rw [if_pos (by rw [ht]; simp)]
  refine wpAny_bind (listItems_at ho' hd ?_)
  refine wpAny_bind (listItems_at (xs := #[]) (n := 0) (Heap.get?_push_size _ rfl) rfl ?_)
  rw [if_neg (by simp)]
  refine wpAny_bind (listUpdate_at (xs := #[]) (n := 0) (Heap.get?_push_size _ rfl) rfl ?_ (Nat.zero_le _) (by show (#[] ++ vs.toArray).size ≤ sizeLine + 1; simp only [Array.size_append, List.size_toArray, List.length_nil]; omega))
  refine wpAny_pure ?_
  show wpAny (model prog w) A (do
      let o ← load s.heap.objs.size
      match o.data with
      | .seq xs _ => pure xs.toList
      | _ => unsupported "internal:collect") Q E { s with heap := (s.heap.push (seqObj "list" #[] 0)).update s.heap.objs.size (Obj.mapSeq (· ++ vs.toArray)) }
  refine wpAny_bind (wpAny_load (get?_update_seq (Heap.get?_push_size _ rfl) _) ?_)
  show wpAny _ _ (pure ((#[] : Array Value) ++ vs.toArray).toList) Q E _
  rw [show ((#[] : Array Value) ++ vs.toArray).toList = vs by simp]
  exact wpAny_pure h
theorem mp_sorted_tup {l : Addr} {vs : List Value} {Q : Value → Shared → Prop} (hl : s.heap.IsTuple l vs.toArray) (hL : vs.length ≤ sizeLine)
    (body : ∀ E' : Value → Shared → Prop, wpAny (model prog w) A.in1.in1 (Builtin.«list.sort» ⟨[.ref (s.heap.objs.size + 1)], []⟩) (fun f s' => f = .done (.ret .none) ∧ Q (.ref (s.heap.objs.size + 1)) s') E' { s with heap := copyHeap s.heap vs }) :
    wpAny (model prog w) A (call (.builtin "sorted") [.ref l]) Q E s := by
  refine call_function_entry_kw kind_sorted plain_sorted entry_sorted (args_sorted1 _) ?_
  unfold Builtin.«sorted»
  refine wpAny_bind (m := checkCount "sorted" 1 1 _) (wpAny_pure ?_)
  refine wpAny_bind (mp_collect_tup hl ?_ hL)
  refine wpAny_bind (wpAny_newList ?_ hL)
  have hsz : ((s.heap.push (seqObj "list" #[] 0)).update s.heap.objs.size (Obj.mapSeq (· ++ vs.toArray))).objs.size = s.heap.objs.size + 1 := by
    rw [Heap.size_update, size_push']
  show wpAny _ _ _ _ _ { s with heap := copyHeap s.heap vs }
  rw [hsz]
  refine wpAny_bind (wpAny_holding (wpAny_call_entry_kw slot_list_sort ⟨_, copyHeap_at s.heap vs, rfl⟩ entry_list_sort ?body (args_list_sort _)))
  case body =>
    show wpAny (model prog w) A.in1.in1 (Builtin.«list.sort» ⟨[.ref (s.heap.objs.size + 1)], []⟩) _ _ _
    refine wpAny_mono (body _) (fun f s' hf => ?_) fun _ _ e => e
    obtain ⟨rfl, hq⟩ := hf
    exact ⟨_, rfl, wpAny_pure ⟨_, rfl, hq⟩⟩
variable {β : Type} {R : Value → β → Prop} {enc : β → PyData} {vs : List Value} {bs : List β}
theorem mp_sorted_tup_data {l : Addr} {Q : Value → Shared → Prop} (hl : s.heap.IsTuple l vs.toArray) (e : EachIs R vs bs) (er : EachIs (fun v b => ∃ as, Reads s.heap v (enc b) as) vs bs) (hal : AllAlike (bs.map enc)) (hk : Sortable (bs.map enc)) (hL : bs.length ≤ sizeLine)
    (hu : ∀ b, b ∈ bs → A.units + 2 + (enc b).depth < cLine) (h : ∀ out, out.length = bs.length → EachIs R out (bs.mergeSort (dataLe false enc)) → Q (.ref (s.heap.objs.size + 1)) { s with heap := sortedAll s.heap vs (List.toArray out) }) :
    wpAny (model prog w) A (call (.builtin "sorted") [.ref l]) Q E s := by
  have er' : EachIs (fun v b => ∃ as, Reads (sortingHeap (copyHeap s.heap vs) (s.heap.objs.size + 1) vs) v (enc b) as) vs bs := er.mono fun _ _ ⟨as, r⟩ => ⟨as, PyProof.Rows.Reads.keeps (fun _ _ => sorting_copy_old) r⟩
  have hLv : vs.length ≤ sizeLine := by rw [e.length]; exact hL
  have S := SortsAt.data (prog := prog) (w := w) (A := A.in1.in1) (s := { s with heap := sortingHeap (copyHeap s.heap vs) (s.heap.objs.size + 1) vs }) (each_map (R := fun v d => ∃ as, Reads (sortingHeap (copyHeap s.heap vs) (s.heap.objs.size + 1) vs) v d as) enc er') hal hk (bound_map hu)
  refine mp_sorted_tup hl hLv fun E' => list_sort_vals (s := { s with heap := copyHeap s.heap vs }) (copyHeap_at s.heap vs) S hLv ⟨rfl, ?_⟩
  exact h _ (by rw [sortVals_length false rfl]; exact e.length) (sortVals_data false e er' hal)
/-- min of a list of data, with the place -/
theorem mp_min_list {l : Addr} {vs : Array Value} {x : PyData} {xs : List PyData} {as : List Addr} {Q : Value → Shared → Prop} (hh : A.handled = none) (hl : s.heap.IsList l vs) (hr : ReadsAll s.heap vs.toList (x :: xs) as) (ha : AlikeAll (x :: xs)) (hu : A.units + 1 + PyData.depthAll (x :: xs) < cLine)
    (h : ∀ (i : Nat) v h' tk, vs[i]? = some v → (x :: xs).getD i .none = minD x xs → (∀ b o, s.heap.get? b = some o → h'.get? b = some o) → Q v { s with heap := h', toks := tk }) :
    wpAny (model prog w) A (call (.builtin "min") [.ref l]) Q E s := by
  have hn : vs.size = xs.length + 1 := readsAll_len hr
  refine call_min_walkH (iter_listW (A := A.in1) hh hl fun s₂ e W st hfp hw hk => ?_)
  refine ⟨_, _, _, _, _, _, _, s.heap, _, rfl, W, st, hfp, by omega, hw, hk, cmpIn_lt (A := A.in1) hr ha (by show A.units + 1 + _ < _; exact hu), fun v s' hP m => ?_⟩
  obtain ⟨h', tk, rfl, hk'⟩ := moved_old e rfl m
  have e1 : vs.size - 1 = xs.length := by omega
  have e2 := (argBest_fold dataLt PyData.none x xs xs.length (Nat.le_refl _)).2
  rw [List.take_length] at e2
  refine h _ v h' tk hP ?_ hk'
  rw [e1]
  exact e2
end
end PySem.W
namespace MP
open PySem PySem.Spec PyProof.Rows L2
section
variable {X : Cx}
def rSortTD (K : MpK) : List V → Hp → VK → Prop := fun vs H Q => ∃ (a : Addr) (xs : List V) (ds : List D), vs = [V.ref a] ∧ SqT K H a xs ∧ xs.length ≤ sizeLine ∧ DpAll K H xs ds ∧ srtOk ds = true ∧
  ∀ p, H p = none → Q (.ref p) (upd H p (.lst (((xs.zip ds).mergeSort (PySem.W.dataLe false fun b => b.2)).map (·.1))))
theorem cr_sortTD (hu : X.A.units + 65 < cLine) : CallR X (.builtin "sorted") (rSortTD X.kk) := by
  intro pins s σ H vs us Q I r h
  obtain ⟨a, xs, ds, rfl, hs, hlen, hd, hok, q⟩ := h
  obtain ⟨hal, hsk, hdep⟩ := srtOk_alike hok
  obtain ⟨its, rv, hl, hlz⟩ := I.tuple hs
  rw [Vals.ref1 r]
  have e2 : (xs.zip ds).map (·.2) = ds := by
    rw [List.map_snd_zip]
    rw [DpAll_length hd]
    exact Nat.le_refl _
  obtain ⟨k1, k2⟩ := each_zip (h := s.heap) (K := X.kk) I rv hd
  have zl : (xs.zip ds).length = xs.length := by rw [List.length_zip, DpAll_length hd, Nat.min_self]
  refine PySem.W.mp_sorted_tup_data (bs := xs.zip ds) (enc := fun b => b.2) hl k1 k2 (by rw [e2]; exact hal) (by rw [e2]; exact hsk) (by rw [zl]; exact hlen) (fun b hb => ?_) fun out ho eo => ?_
  · have : b.2 ∈ ds := by rw [← e2]; exact List.mem_map.mpr ⟨b, hb, rfl⟩
    have := (hdep _ this).2
    show X.A.units + 2 + b.2.depth < cLine
    omega
  · obtain ⟨ep, he'⟩ := PyProof.Rows.sortedAll_at s.heap its out.toArray
    have hlen2 : (((xs.zip ds).mergeSort (PySem.W.dataLe false fun b => b.2)).map (·.1)).length ≤ sizeLine := by
      rw [List.length_map, (List.mergeSort_perm _ _).length_eq, zl]; exact hlen
    exact ⟨.ref _, upd H (s.heap.objs.size + 1) (.lst (((xs.zip ds).mergeSort (PySem.W.dataLe false fun b => b.2)).map (·.1))), I.laid (t' := s.toks) (fun _ _ => PyProof.Rows.sortedAll_old) (Nat.le_succ _) ⟨hlen2, out, ep, vals_each eo, he'⟩, rfl, q _ (I.hok.fresh (Nat.le_succ _))⟩
def bSortedT : List D → Option D
  | [.tuple ds] => if srtOk ds then some (.list (srt ds)) else none
  | _ => none
theorem cas_sortedT (hu : X.A.units + 65 < cLine) : CaS X (.builtin "sorted") bSortedT := by
  refine ⟨_, cr_sortTD hu, fun c W F H xs ds d Q st r e q => ?_⟩
  match ds, e with
  | [.tuple ds], e =>
    have ro := r.one; clear r; obtain ⟨v, rfl, r⟩ := ro
    obtain ⟨a1, v1, rfl, h1, l1, r1⟩ := (r.flat rfl).tupI
    obtain ⟨hk, rfl⟩ := if_some e
    obtain ⟨hal, hsk, hdep⟩ := srtOk_alike hk
    refine ⟨a1, v1, ds, rfl, SqT_same st.sub h1, l1, RpA.dp st.sub r1 (canLayAll_of fun d hd => (hdep d hd).1), hk, fun p hp => q _ _ _ (st.new hp) (st.keepc hp) (fr_new st hp ?_ ?_)⟩
    · rw [List.length_map, (List.mergeSort_perm _ _).length_eq, List.length_zip]
      exact Nat.le_trans (Nat.min_le_left _ _) l1
    · have key : RpA X.kk F (((v1.zip ds).mergeSort (PySem.W.dataLe false fun b => b.2)).map (·.1)) (((v1.zip ds).mergeSort (PySem.W.dataLe false fun b => b.2)).map (·.2)) :=
        RpA.zipm fun b hb => r1.zip_mem b ((List.mergeSort_perm _ _).mem_iff.mp hb)
      have e3 : ((v1.zip ds).mergeSort (PySem.W.dataLe false fun b => b.2)).map (·.2) = srt ds := by
        have := PySem.W.sort_maps (r := PySem.W.dataLe false fun b : V × D => b.2) (s := PySem.W.dataLe false id) (fun b : V × D => b.2) (l := v1.zip ds) (fun a _ b _ => rfl)
        rw [this, List.map_snd_zip (by rw [r1.length]; exact Nat.le_refl _)]
      rw [e3] at key
      exact key
def bSorted3 : List D → Option D
  | [.tuple ds] => bSortedT [.tuple ds]
  | ds => bSorted ds
theorem cas_sorted3 (hu : X.A.units + 65 < cLine) : CaS X (.builtin "sorted") bSorted3 := CaS.or2 (cas_sortedT hu) (cas_sorted hu) fun ds d e => by
  unfold bSorted3 at e
  split at e
  · exact .inl e
  · exact .inr e
/-! min of a list of data -/
def minOk (ds : List D) : Bool := ds.all (fun d => d.canLay0 && decide (d.depth ≤ 60) && !isBox d && (match d with | .none => false | _ => true)) && ds.all (fun d => ds.all (PySem.W.alike d))
theorem depthAll_le {n : Nat} : ∀ {ds : List D}, (∀ d ∈ ds, d.depth ≤ n) → PyData.depthAll ds ≤ n
  | [], _ => Nat.zero_le _
  | d :: ds, h => Nat.max_le.mpr ⟨h d List.mem_cons_self, depthAll_le fun e he => h e (List.mem_cons_of_mem _ he)⟩
theorem minOk_of {ds : List D} (h : minOk ds = true) : PySem.W.AlikeAll ds ∧ (∀ d ∈ ds, d.canLay0 = true ∧ isBox d = false) ∧ PyData.depthAll ds ≤ 60 := by
  unfold minOk at h
  obtain ⟨h1, h2⟩ := Bool.and_eq_true_iff.mp h
  have k : ∀ d ∈ ds, d.canLay0 = true ∧ d.depth ≤ 60 ∧ isBox d = false ∧ d ≠ .none := fun d hd => by
    have := List.all_eq_true.mp h1 d hd
    rw [Bool.and_eq_true, Bool.and_eq_true, Bool.and_eq_true] at this
    obtain ⟨⟨⟨a, b⟩, c⟩, e⟩ := this
    refine ⟨a, of_decide_eq_true b, by simpa using c, fun z => ?_⟩
    rw [z] at e
    cases e
  exact ⟨⟨fun d hd e he => List.all_eq_true.mp (List.all_eq_true.mp h2 d hd) e he, fun d hd => (k d hd).2.2.2⟩, fun d hd => ⟨(k d hd).1, (k d hd).2.2.1⟩, depthAll_le fun d hd => (k d hd).2.1⟩
def rMinL (K : MpK) : List V → Hp → VK → Prop := fun vs H Q => ∃ (a : Addr) (xs : List V) (d : D) (ds : List D), vs = [V.ref a] ∧ H a = some (.lst xs) ∧ DpAll K H xs (d :: ds) ∧ minOk (d :: ds) = true ∧
  ∀ (i : Nat) (v : V), xs[i]? = some v → (d :: ds).getD i .none = PySem.W.minD d ds → Q v H
theorem vals_at : ∀ {xs : List V} {us : List Value}, Vals xs us → ∀ (i : Nat) (u : Value), us[i]? = some u → ∃ v, xs[i]? = some v ∧ RelV v u
  | _, _, .nil, i, u, h => by simp at h
  | _, _, .cons r t, 0, u, h => by cases h; exact ⟨_, rfl, r⟩
  | _, _, .cons r t, i + 1, u, h => by
    obtain ⟨v, h1, h2⟩ := vals_at t i u (by simpa using h)
    exact ⟨v, by simpa using h1, h2⟩
theorem cr_minL (hu : X.A.units + 67 < cLine) (hc : X.calm = true) : CallR X (.builtin "min") (rMinL X.kk) := by
  intro pins s σ H vs us Q I r h
  obtain ⟨a, xs, d, ds, rfl, hs, hd, hok, q⟩ := h
  obtain ⟨hal, hlay, hdep⟩ := minOk_of hok
  obtain ⟨its, rv, hl, hlen⟩ := I.list (SqL.of hs)
  rw [Vals.ref1 r]
  obtain ⟨as, ra⟩ := Dp.readsAll I _ _ _ hd rv
  refine PySem.W.mp_min_list (vs := its.toArray) (x := d) (xs := ds) (I.ok.hd hc) hl.isList (by simpa using ra) hal ?_ fun i v h' tk hv e kp => ?_
  · show X.A.units + 1 + PyData.depthAll (d :: ds) < _
    omega
  · obtain ⟨v1, h1, h2⟩ := vals_at rv i v (by simpa using hv)
    exact ⟨v1, H, I.kept kp, h2, q i v1 h1 e⟩
def bMinL : List D → Option D
  | [.list (d :: ds)] => if minOk (d :: ds) then some (PySem.W.minD d ds) else none
  | _ => none
theorem cas_minL (hu : X.A.units + 67 < cLine) (hc : X.calm = true) : CaS X (.builtin "min") bMinL := by
  refine ⟨_, cr_minL hu hc, fun c W F H xs ds d Q st r e q => ?_⟩
  match ds, e with
  | [.list (d0 :: ds)], e =>
    have ro := r.one; clear r; obtain ⟨v, rfl, r⟩ := ro
    obtain ⟨a1, v1, rfl, h1, l1, r1⟩ := r.list st.sub
    obtain ⟨hk, rfl⟩ := if_some e
    obtain ⟨hal, hlay, hdep⟩ := minOk_of hk
    refine ⟨a1, v1, d0, ds, rfl, h1, RpA.dp st.sub r1 (canLayAll_of fun d hd => (hlay d hd).1), hk, fun i v hv e2 => ?_⟩
    have hi : i < (d0 :: ds).length := by
      rw [← r1.length]
      exact (List.getElem?_eq_some_iff.mp hv).1
    have e3 : (d0 :: ds)[i]? = some (PySem.W.minD d0 ds) := by
      rw [← e2, List.getD_eq_getElem?_getD, List.getElem?_eq_getElem hi]
      rfl
    obtain ⟨v2, e4, r2⟩ := r1.get e3
    rw [hv] at e4
    cases e4
    exact q F H _ st.refl rfl (fr_flat r2 (hlay _ (List.mem_of_getElem? e3)).2)
def bMin3 : List D → Option D
  | [.list (.tuple xs :: ds)] => bMinL [.list (.tuple xs :: ds)]
  | ds => bMin2 ds
theorem cas_min3 (hu : X.A.units + 65 < cLine) (hu2 : X.A.units + 67 < cLine) (hc : X.calm = true) : CaS X (.builtin "min") bMin3 := CaS.or2 (cas_minL hu2 hc) (cas_min2 hu hu2 hc) fun ds d e => by
  unfold bMin3 at e
  split at e
  · exact .inl e
  · exact .inr e
end
end MP
namespace MP.SI
open PySem MP MP.SI
local macro_rules | `(tactic| walk_at "w") => `(tactic| first
  | with_reducible refine w_seq ?_
  | with_reducible refine w_set ?_
  | with_reducible refine w_ret ?_
  | with_reducible refine w_cons ?_
  | with_reducible refine w_nil ?_
  | with_reducible refine w_c ?_
  | ((with_reducible refine' w_nm ?hnm ?_); (case hnm => exact rfl))
  | with_reducible refine w_bin ?_
  | with_reducible refine w_b ?_
  | with_reducible refine w_not ?_
  | with_reducible refine w_and ?_
  | with_reducible refine w_or ?_
  | with_reducible refine w_if ?_
  | with_reducible refine w_sif ?_
  | with_reducible refine w_chn ?_
  | with_reducible refine w_call ?_
  | with_reducible refine w_ca ?_
  | with_reducible refine w_tup ?_
  | with_reducible refine w_lst ?_
  | with_reducible refine w_isi ?_
  | with_reducible refine w_drop ?_
  | with_reducible refine w_snil ?_
  | with_reducible refine w_par ?_
  | with_reducible refine w_asg ?_
  | with_reducible refine w_for ?_
  | with_reducible refine w_lc ?_
  | with_reducible refine w_it ?_
  | with_reducible refine w_zip ?_
  | with_reducible refine w_enum ?_
  | with_reducible refine w_sl2 ?_
  | with_reducible refine w_eoN ?_
  | with_reducible refine w_eoS ?_
  | with_reducible refine w_me ?_
  | with_reducible refine w_rev ?_
  | ((with_reducible refine' w_app ?hap ?_); (case hap => exact rfl))
  | ((with_reducible refine' w_augI ?hap ?_); (case hap => exact rfl))
  | with_reducible refine w_rg1 ?_
  | with_reducible refine w_rg2 ?_
  | with_reducible refine w_scup ?_
  | with_reducible refine w_cup ?_
  | with_reducible refine w_neg ?_
  | with_reducible refine w_mean ?_
  | with_reducible refine ⟨_, dLt_ii, ?_⟩
  | with_reducible refine ⟨_, dGt_ii, ?_⟩
  | with_reducible refine ⟨_, dLe_ii, ?_⟩
  | with_reducible refine ⟨_, dGe_ii, ?_⟩
  | with_reducible refine ⟨_, dEq_ii, ?_⟩
  | with_reducible refine ⟨_, dNe_ii, ?_⟩
  | with_reducible refine ⟨_, dLe_ii, fun _ => ?_, fun _ => ?_⟩
  | with_reducible refine ⟨_, dLt_ii, fun _ => ?_, fun _ => ?_⟩
  | with_reducible refine ⟨_, dAdd_ii, ?_⟩
  | with_reducible refine ⟨_, dSub_ii, ?_⟩
  | with_reducible refine ⟨_, isi_int_int, ?_⟩
  | with_reducible refine ⟨_, isi_int_bool, ?_⟩
  | with_reducible refine ⟨_, isi_int_str, ?_⟩
  | with_reducible refine ⟨_, isi_int_tuple, ?_⟩
  | with_reducible refine ⟨_, isi_tuple_int, ?_⟩
  | with_reducible refine ⟨_, isi_tuple_bool, ?_⟩
  | with_reducible refine ⟨_, isi_tuple_str, ?_⟩
  | with_reducible refine ⟨_, isi_tuple_tuple, ?_⟩
  | with_reducible refine ⟨_, isi_str_int, ?_⟩
  | with_reducible refine ⟨_, isi_str_bool, ?_⟩
  | with_reducible refine ⟨_, isi_str_str, ?_⟩
  | with_reducible refine ⟨_, isi_str_tuple, ?_⟩
  | with_reducible refine ⟨_, isi_bool_int, ?_⟩
  | with_reducible refine ⟨_, isi_bool_bool, ?_⟩
  | with_reducible refine ⟨_, isi_bool_str, ?_⟩
  | with_reducible refine ⟨_, isi_bool_tuple, ?_⟩
  | with_reducible refine ⟨_, isi_none_int, ?_⟩
  | with_reducible refine ⟨_, isi_none_bool, ?_⟩
  | with_reducible refine ⟨_, isi_none_str, ?_⟩
  | with_reducible refine ⟨_, isi_none_tuple, ?_⟩
  | with_reducible refine ⟨_, isi_list_int, ?_⟩
  | with_reducible refine ⟨_, isi_list_bool, ?_⟩
  | with_reducible refine ⟨_, isi_list_str, ?_⟩
  | with_reducible refine ⟨_, isi_list_tuple, ?_⟩
  | with_reducible refine ⟨true, rfl, fun _ => ?_, fun h => absurd h (by decide)⟩
  | with_reducible refine ⟨false, rfl, fun h => absurd h (by decide), fun _ => ?_⟩
  | (fail_if_success with_reducible refine mul_shape ?_); (fail_if_success with_reducible refine mul2_shape ?_); with_reducible refine ⟨_, rfl, fun hb => ?_, fun hb => ?_⟩
  | (fail_if_success with_reducible refine mul_shape ?_); (fail_if_success with_reducible refine mul2_shape ?_); with_reducible refine ⟨_, rfl, ?_⟩
  | with_reducible refine ⟨fun hb => ?_, fun hb => ?_⟩
  | with_reducible exact ⟨rfl, rfl⟩
  | with_reducible refine ⟨(rfl : isLst _ = true), ?_⟩)
/-! ## rows of small numbers as data: signs -/
abbrev NT (s : List Nat) : D := .tuple (s.map fun p : Nat => .int p)
def ltN : List Nat → List Nat → Bool
  | [], [] => false
  | [], _ :: _ => true
  | _ :: _, [] => false
  | a :: as, b :: bs => cond (Nat.beq a b) (ltN as bs) (Nat.blt a b)
theorem lexLt_nil_nil : PyProof.Rows.lexLt PyProof.Rows.itemOrd [] [] = false := rfl
theorem eqv_int (a b : Int) : PyData.eqv (.int a) (.int b) = decide (a = b) := by
  rw [PyData.eqv]
  exact Bool.eq_iff_iff.mpr (by rw [beq_iff_eq, decide_eq_true_iff])
theorem ltN_toks : ∀ a b : List Nat, PyProof.Rows.lexLt PyProof.Rows.itemOrd (PySem.W.keyToksAll (a.map fun p : Nat => PyData.int p)) (PySem.W.keyToksAll (b.map fun p : Nat => PyData.int p)) = ltN a b
  | [], [] => rfl
  | [], b :: bs => by
    rw [List.map_cons, PySem.W.toks_all_cons]
    rfl
  | a :: as, [] => by
    rw [List.map_cons, PySem.W.toks_all_cons]
    rfl
  | a :: as, b :: bs => by
    rw [List.map_cons, List.map_cons]
    by_cases h : a = b
    · subst h
      rw [PySem.W.dataLt_all_yes rfl (by rw [eqv_int]; exact decide_eq_true rfl), ltN_toks as bs, ltN, Nat.beq_refl]
      rfl
    · rw [PySem.W.dataLt_all_no rfl (by rw [eqv_int]; exact decide_eq_false (by omega)), PySem.W.dataLt_int, ltN]
      have e : Nat.beq a b = false := by
        cases e : Nat.beq a b with
        | true => exact absurd (Nat.eq_of_beq_eq_true e) h
        | false => rfl
      rw [e]
      show decide ((a : Int) < b) = Nat.blt a b
      cases e2 : Nat.blt a b with
      | true => exact decide_eq_true (by have := Nat.blt_eq.mp e2; omega)
      | false => exact decide_eq_false (fun q => by
          have : Nat.blt a b = true := Nat.blt_eq.mpr (by omega)
          rw [e2] at this
          cases this)
theorem ltN_data (a b : List Nat) : PySem.W.dataLt (NT a) (NT b) = ltN a b := by
  rw [PySem.W.dataLt_tuple]
  exact ltN_toks a b
theorem eqvAll_nats : ∀ a b : List Nat, PyData.eqvAll (a.map fun p : Nat => PyData.int p) (b.map fun p : Nat => PyData.int p) = decide (a = b)
  | [], [] => rfl
  | [], _ :: _ => rfl
  | _ :: _, [] => rfl
  | a :: as, b :: bs => by
    rw [List.map_cons, List.map_cons, PySem.W.eqv_all_cons, eqvAll_nats as bs, eqv_int]
    refine Bool.eq_iff_iff.mpr ?_
    rw [Bool.and_eq_true, decide_eq_true_iff, decide_eq_true_iff, decide_eq_true_iff, List.cons.injEq, Int.natCast_inj]
theorem eqv_NT (a b : List Nat) : PyData.eqv (NT a) (NT b) = decide (a = b) := by
  rw [PyData.eqv]
  exact eqvAll_nats a b
theorem depth_nats (a : List Nat) : PyData.depthAll (a.map fun p : Nat => PyData.int p) = 0 := by
  have := PySem.W.depth_ints (a.map fun p : Nat => (p : Int))
  rwa [List.map_map] at this
theorem lay_NT (a : List Nat) : (NT a).canLay0 = true ∧ (NT a).depth = 1 := by
  refine ⟨?_, ?_⟩
  · rw [PyData.canLay0]
    exact canLayAll_of fun d hd => by
      obtain ⟨p, _, rfl⟩ := List.mem_map.mp hd
      rfl
  · rw [PyData.depth, depth_nats]
theorem shp_NT (a : List Nat) : shp (NT a) = true := by
  unfold shp
  rw [(lay_NT a).1, (lay_NT a).2]
  rfl
theorem alike_NT (a b : List Nat) : PySem.W.alike (NT a) (NT b) = true := by
  rw [PySem.W.alike]
  have := PySem.W.alike_ints (a.map fun p : Nat => (p : Int)) (b.map fun p : Nat => (p : Int))
  rwa [List.map_map, List.map_map] at this
theorem cmp_NT (a b : List Nat) : cmpOk (NT a) (NT b) = true := by
  unfold cmpOk
  rw [shp_NT, shp_NT, alike_NT]
  rfl
theorem dEq_NT (a b : List Nat) : dEq (NT a) (NT b) = some (.bool (decide (a = b))) := by
  unfold dEq
  rw [if_pos (by rw [shp_NT, shp_NT]; rfl), eqv_NT]
theorem dNe_NT (a b : List Nat) : dNe (NT a) (NT b) = some (.bool (!decide (a = b))) := by
  unfold dNe
  rw [if_pos (by rw [shp_NT, shp_NT]; rfl), eqv_NT]
theorem dLt_NT (a b : List Nat) : dLt (NT a) (NT b) = some (.bool (ltN a b)) := by
  unfold dLt
  rw [if_pos (cmp_NT a b), ltN_data]
theorem dLe_NT (a b : List Nat) : dLe (NT a) (NT b) = some (.bool (!ltN b a)) := by
  unfold dLe
  rw [if_pos (cmp_NT a b), ltN_data]
theorem lay_NTs {l : List (List Nat)} : ∀ d ∈ l.map NT, d.canLay0 = true ∧ d.depth ≤ 63 := fun d hd => by
  obtain ⟨a, _, rfl⟩ := List.mem_map.mp hd
  exact ⟨(lay_NT a).1, by rw [(lay_NT a).2]; omega⟩
theorem any_NT (l : List (List Nat)) (a : List Nat) : (l.map NT).any (fun z => PyData.eqv z (NT a)) = decide (a ∈ l) := by
  refine Bool.eq_iff_iff.mpr ?_
  rw [List.any_map, List.any_eq_true, decide_eq_true_iff]
  constructor
  · rintro ⟨y, hy, e⟩
    have e : PyData.eqv (NT y) (NT a) = true := e
    rw [eqv_NT, decide_eq_true_iff] at e
    exact e ▸ hy
  · intro hx
    exact ⟨a, hx, by show PyData.eqv (NT a) (NT a) = true; rw [eqv_NT, decide_eq_true rfl]⟩
theorem in_NTL (l : List (List Nat)) (a : List Nat) : dIn (NT a) (.list (l.map NT)) = some (.bool (decide (a ∈ l))) := by
  show (if (shp (NT a) && shp (.list (l.map NT))) = true then some (PyData.bool ((l.map NT).any fun z => PyData.eqv z (NT a))) else none) = _
  rw [if_pos (by rw [shp_NT, shp_list lay_NTs]; rfl), any_NT]
theorem in_NTT (l : List (List Nat)) (a : List Nat) : dIn (NT a) (.tuple (l.map NT)) = some (.bool (decide (a ∈ l))) := by
  show (if (shp (NT a) && shp (.tuple (l.map NT))) = true then some (PyData.bool ((l.map NT).any fun z => PyData.eqv z (NT a))) else none) = _
  rw [if_pos (by rw [shp_NT, shp_tuple lay_NTs]; rfl), any_NT]
theorem notin_NTL (l : List (List Nat)) (a : List Nat) : dNotIn (NT a) (.list (l.map NT)) = some (.bool (!decide (a ∈ l))) := by
  unfold dNotIn
  rw [in_NTL]
theorem notin_NTT (l : List (List Nat)) (a : List Nat) : dNotIn (NT a) (.tuple (l.map NT)) = some (.bool (!decide (a ∈ l))) := by
  unfold dNotIn
  rw [in_NTT]
/-! the order -/
theorem ltN_cons (a b : Nat) (as bs : List Nat) : ltN (a :: as) (b :: bs) = true ↔ a < b ∨ a = b ∧ ltN as bs = true := by
  rw [ltN]
  cases e : Nat.beq a b with
  | true =>
    have := Nat.eq_of_beq_eq_true e
    subst this
    show ltN as bs = true ↔ _
    constructor
    · exact fun h => .inr ⟨rfl, h⟩
    · rintro (h | h)
      · omega
      · exact h.2
  | false =>
    have ne : a ≠ b := fun z => by rw [z, Nat.beq_refl] at e; cases e
    show Nat.blt a b = true ↔ _
    rw [Nat.blt_eq]
    constructor
    · exact fun h => .inl h
    · rintro (h | h)
      · exact h
      · exact absurd h.1 ne
theorem ltN_irrefl : ∀ a : List Nat, ltN a a = false
  | [] => rfl
  | a :: as => by
    rw [ltN, Nat.beq_refl]
    exact ltN_irrefl as
theorem ltN_trans : ∀ {a b c : List Nat}, ltN a b = true → ltN b c = true → ltN a c = true
  | [], [], _, h, _ => by cases h
  | _ :: _, [], _, h, _ => by cases h
  | [], _ :: _, [], _, h => by cases h
  | [], _ :: _, _ :: _, _, _ => rfl
  | _ :: _, _ :: _, [], _, h => by cases h
  | a :: as, b :: bs, c :: cs, h, k => by
    rw [ltN_cons] at h k ⊢
    rcases h with h | ⟨h, h2⟩
    · rcases k with k | ⟨k, k2⟩
      · exact .inl (by omega)
      · exact .inl (by omega)
    · rcases k with k | ⟨k, k2⟩
      · exact .inl (by omega)
      · exact .inr ⟨by omega, ltN_trans h2 k2⟩
theorem ltN_tri : ∀ {a b : List Nat}, ltN a b = false → ltN b a = false → a = b
  | [], [], _, _ => rfl
  | _ :: _, [], _, h => by cases h
  | [], _ :: _, h, _ => by cases h
  | a :: as, b :: bs, h, k => by
    have h' : ¬ (a < b ∨ a = b ∧ ltN as bs = true) := fun z => by rw [(ltN_cons a b as bs).mpr z] at h; cases h
    have k' : ¬ (b < a ∨ b = a ∧ ltN bs as = true) := fun z => by rw [(ltN_cons b a bs as).mpr z] at k; cases k
    have e : a = b := by omega
    subst e
    have h2 : ltN as bs = false := by
      cases q : ltN as bs with
      | false => rfl
      | true => exact absurd (.inr ⟨rfl, q⟩) h'
    have k2 : ltN bs as = false := by
      cases q : ltN bs as with
      | false => rfl
      | true => exact absurd (.inr ⟨rfl, q⟩) k'
    rw [ltN_tri h2 k2]
theorem ltN_asym {a b : List Nat} (h : ltN a b = true) : ltN b a = false := by
  cases e : ltN b a with
  | false => rfl
  | true =>
    have := ltN_trans h e
    rw [ltN_irrefl] at this
    cases this
abbrev LtN (a b : List Nat) : Prop := ltN a b = true
def leN (a b : List Nat) : Bool := !ltN b a
theorem srt_NT {l : List (List Nat)} (h : ∀ a ∈ l, a ≠ []) (nd : l.Nodup) : srtOk (l.map NT) = true ∧ ∃ ys : List (List Nat), srt (l.map NT) = ys.map NT ∧ ys.Perm l ∧ ys.Pairwise LtN := by
  refine ⟨?_, l.mergeSort leN, ?_, List.mergeSort_perm _ _, ?_⟩
  · unfold srtOk
    rw [Bool.and_eq_true, Bool.and_eq_true]
    refine ⟨⟨List.all_eq_true.mpr fun d hd => ?_, List.all_eq_true.mpr fun d hd => List.all_eq_true.mpr fun e he => ?_⟩, Bool.or_eq_true_iff.mpr (.inl (List.all_eq_true.mpr fun d hd => ?_))⟩
    · obtain ⟨x, hx, rfl⟩ := List.mem_map.mp hd
      rw [(lay_NT x).1, (lay_NT x).2]
      rfl
    · obtain ⟨x, hx, rfl⟩ := List.mem_map.mp hd
      obtain ⟨y, hy, rfl⟩ := List.mem_map.mp he
      exact alike_NT x y
    · obtain ⟨x, hx, rfl⟩ := List.mem_map.mp hd
      cases x with
      | nil => exact absurd rfl (h _ hx)
      | cons a as => rfl
  · refine (List.map_mergeSort (r := leN) (s := PySem.W.dataLe false id) (f := NT) fun a _ b _ => ?_).symm
    rw [PySem.W.dataLe_eq]
    show leN a b = !(PySem.W.dataLt (NT b) (NT a))
    rw [ltN_data]
    rfl
  · have tr : ∀ a b c : List Nat, leN a b = true → leN b c = true → leN a c = true := fun a b c h1 h2 => by
      unfold leN at *
      simp only [Bool.not_eq_true'] at *
      cases h3 : ltN c a with
      | false => rfl
      | true =>
        cases h4 : ltN a b with
        | true =>
          have := ltN_trans h3 h4
          rw [h2] at this
          cases this
        | false =>
          have := ltN_tri h4 h1
          subst this
          rw [h2] at h3
          cases h3
    have to : ∀ a b : List Nat, (leN a b || leN b a) = true := fun a b => by
      unfold leN
      cases h3 : ltN b a with
      | false => rfl
      | true => rw [ltN_asym h3]; rfl
    have p1 : (l.mergeSort leN).Pairwise fun a b => leN a b = true := List.pairwise_mergeSort tr to l
    have nd2 : (l.mergeSort leN).Nodup := (List.mergeSort_perm l leN).symm.nodup nd
    refine (p1.and nd2).imp fun {a b} q => ?_
    obtain ⟨q1, q2⟩ := q
    unfold leN at q1
    simp only [Bool.not_eq_true'] at q1
    show ltN a b = true
    cases h4 : ltN a b with
    | true => rfl
    | false => exact absurd (ltN_tri h4 q1) q2
theorem sorted3_NT {l : List (List Nat)} (h : ∀ a ∈ l, a ≠ []) (nd : l.Nodup) : ∃ ys : List (List Nat), bSorted3 [.tuple (l.map NT)] = some (.list (ys.map NT)) ∧ ys.Perm l ∧ ys.Pairwise LtN := by
  obtain ⟨h1, ys, h2, h3⟩ := srt_NT h nd
  refine ⟨ys, ?_, h3⟩
  show (if srtOk (l.map NT) = true then some (PyData.list (srt (l.map NT))) else none) = _
  rw [if_pos h1, h2]
theorem sorted_NT {l : List (List Nat)} (h : ∀ a ∈ l, a ≠ []) (nd : l.Nodup) : ∃ ys : List (List Nat), bSorted [.list (l.map NT)] = some (.list (ys.map NT)) ∧ ys.Perm l ∧ ys.Pairwise LtN := by
  obtain ⟨h1, ys, h2, h3⟩ := srt_NT h nd
  refine ⟨ys, ?_, h3⟩
  show (if srtOk (l.map NT) = true then some (PyData.list (srt (l.map NT))) else none) = _
  rw [if_pos h1, h2]
theorem rise_one {l m : List (List Nat)} (h : l.Pairwise LtN) (k : m.Pairwise LtN) (p : l.Perm m) : l = m :=
  List.Perm.eq_of_pairwise (fun a b _ _ h1 h2 => by
    have := ltN_asym h1
    rw [show ltN b a = true from h2] at this
    cases this) h k p
/-! rows of rows -/
abbrev NTT (s : List (List Nat)) : D := .tuple (s.map NT)
def ltNN : List (List Nat) → List (List Nat) → Bool
  | [], [] => false
  | [], _ :: _ => true
  | _ :: _, [] => false
  | a :: as, b :: bs => cond (ltN a b) true (cond (ltN b a) false (ltNN as bs))
theorem ltNN_toks : ∀ a b : List (List Nat), PyProof.Rows.lexLt PyProof.Rows.itemOrd (PySem.W.keyToksAll (a.map NT)) (PySem.W.keyToksAll (b.map NT)) = ltNN a b
  | [], [] => rfl
  | [], b :: bs => by
    rw [List.map_cons, PySem.W.toks_all_cons]
    rfl
  | a :: as, [] => by
    rw [List.map_cons, PySem.W.toks_all_cons]
    rfl
  | a :: as, b :: bs => by
    rw [List.map_cons, List.map_cons]
    by_cases h : a = b
    · subst h
      rw [PySem.W.dataLt_all_yes (alike_NT a a) (by rw [eqv_NT]; exact decide_eq_true rfl), ltNN_toks as bs, ltNN, ltN_irrefl]
      rfl
    · rw [PySem.W.dataLt_all_no (alike_NT a b) (by rw [eqv_NT]; exact decide_eq_false h), ltN_data, ltNN]
      cases h1 : ltN a b with
      | true => rfl
      | false =>
        cases h2 : ltN b a with
        | true => rfl
        | false => exact absurd (ltN_tri h1 h2) h
theorem ltNN_data (a b : List (List Nat)) : PySem.W.dataLt (NTT a) (NTT b) = ltNN a b := by
  rw [PySem.W.dataLt_tuple]
  exact ltNN_toks a b
theorem lay_NTT (a : List (List Nat)) : (NTT a).canLay0 = true ∧ (NTT a).depth ≤ 2 := by
  refine ⟨?_, ?_⟩
  · rw [PyData.canLay0]
    exact canLayAll_of fun d hd => (lay_NTs d hd).1
  · have : PyData.depthAll (a.map NT) ≤ 1 := depthAll_le fun d hd => by
      obtain ⟨x, _, rfl⟩ := List.mem_map.mp hd
      rw [(lay_NT x).2]
      exact Nat.le_refl _
    rw [PyData.depth]
    omega
theorem alikeAll_NT : ∀ a b : List (List Nat), PySem.W.alikeAll (a.map NT) (b.map NT) = true
  | [], _ => by rw [List.map_nil, PySem.W.alikeAll]
  | _ :: _, [] => by rw [List.map_nil, List.map_cons, PySem.W.alikeAll]
  | a :: as, b :: bs => by
    rw [List.map_cons, List.map_cons, PySem.W.alikeAll, alike_NT, alikeAll_NT as bs]
    rfl
theorem alike_NTT (a b : List (List Nat)) : PySem.W.alike (NTT a) (NTT b) = true := by
  rw [PySem.W.alike]
  exact alikeAll_NT a b
def minNN (x : List (List Nat)) (xs : List (List (List Nat))) : List (List Nat) := xs.foldl (fun a y => cond (ltNN y a) y a) x
theorem minD_NTT : ∀ (xs : List (List (List Nat))) (x : List (List Nat)), PySem.W.minD (NTT x) (xs.map NTT) = NTT (minNN x xs)
  | [], _ => rfl
  | y :: ys, x => by
    show PySem.W.minD (if PySem.W.dataLt (NTT y) (NTT x) then NTT y else NTT x) (ys.map NTT) = NTT (minNN (cond (ltNN y x) y x) ys)
    rw [ltNN_data]
    cases ltNN y x with
    | true => exact minD_NTT ys y
    | false => exact minD_NTT ys x
theorem min3_NTT (x : List (List Nat)) (xs : List (List (List Nat))) : bMin3 [.list ((x :: xs).map NTT)] = some (NTT (minNN x xs)) := by
  show (if minOk ((x :: xs).map NTT) = true then some (PySem.W.minD (NTT x) (xs.map NTT)) else none) = _
  rw [if_pos, minD_NTT]
  unfold minOk
  rw [Bool.and_eq_true]
  refine ⟨List.all_eq_true.mpr fun d hd => ?_, List.all_eq_true.mpr fun d hd => List.all_eq_true.mpr fun e he => ?_⟩
  · obtain ⟨x, hx, rfl⟩ := List.mem_map.mp hd
    rw [(lay_NTT x).1, decide_eq_true (show (NTT x).depth ≤ 60 by have := (lay_NTT x).2; omega)]
    rfl
  · obtain ⟨x, hx, rfl⟩ := List.mem_map.mp hd
    obtain ⟨y, hy, rfl⟩ := List.mem_map.mp he
    exact alike_NTT x y
theorem gd_NT {k : Nat} {s : List Nat} (h : s.length ≤ 16777216) : gd (k + 2) (NT s) := gd_natsT h
theorem gd_NTT {k : Nat} {l : List (List Nat)} (h : l.length ≤ 16777216) (k2 : ∀ s ∈ l, s.length ≤ 16777216) : gd (k + 3) (NTT l) := by
  refine ⟨by rw [List.length_map]; exact h, fun d hd => ?_⟩
  obtain ⟨s, hs, rfl⟩ := List.mem_map.mp hd
  exact gd_NT (k2 s hs)
theorem add_NT {s t : List Nat} (h : s.length + t.length ≤ 16777216) : dAdd (NT s) (NT t) = some (NT (s ++ t)) := by
  rw [dAdd_tup (by rw [List.length_map, List.length_map]; exact h), ← List.map_append]
theorem okMul_nat {a b : Nat} (h : a < 18446744073709551616) : okMul a b = true := by
  unfold okMul
  rw [Bool.or_eq_true, Bool.and_eq_true]
  exact .inl ⟨decide_eq_true (by omega), decide_eq_true (by omega)⟩
theorem mul_nat {a b : Nat} (h : a < 18446744073709551616) : dMul (.int a) (.int b) = some (.int ((a * b : Nat) : Int)) := by
  show (if okMul a b = true then some (PyData.int ((a : Int) * b)) else none) = _
  rw [if_pos (okMul_nat h), Int.natCast_mul]
end MP.SI
namespace MP.SI
open PySem MP MP.SI
local macro_rules | `(tactic| walk_at "w") => `(tactic| first
  | with_reducible refine w_seq ?_
  | with_reducible refine w_set ?_
  | with_reducible refine w_ret ?_
  | with_reducible refine w_cons ?_
  | with_reducible refine w_nil ?_
  | with_reducible refine w_c ?_
  | ((with_reducible refine' w_nm ?hnm ?_); (case hnm => exact rfl))
  | with_reducible refine w_bin ?_
  | with_reducible refine w_b ?_
  | with_reducible refine w_not ?_
  | with_reducible refine w_and ?_
  | with_reducible refine w_or ?_
  | with_reducible refine w_if ?_
  | with_reducible refine w_sif ?_
  | with_reducible refine w_chn ?_
  | with_reducible refine w_call ?_
  | with_reducible refine w_ca ?_
  | with_reducible refine w_tup ?_
  | with_reducible refine w_lst ?_
  | with_reducible refine w_isi ?_
  | with_reducible refine w_drop ?_
  | with_reducible refine w_snil ?_
  | with_reducible refine w_par ?_
  | with_reducible refine w_asg ?_
  | with_reducible refine w_for ?_
  | with_reducible refine w_lc ?_
  | with_reducible refine w_it ?_
  | with_reducible refine w_zip ?_
  | with_reducible refine w_enum ?_
  | with_reducible refine w_sl2 ?_
  | with_reducible refine w_eoN ?_
  | with_reducible refine w_eoS ?_
  | with_reducible refine w_me ?_
  | with_reducible refine w_rev ?_
  | ((with_reducible refine' w_app ?hap ?_); (case hap => exact rfl))
  | ((with_reducible refine' w_augI ?hap ?_); (case hap => exact rfl))
  | with_reducible refine w_rg1 ?_
  | with_reducible refine w_rg2 ?_
  | with_reducible refine w_scup ?_
  | with_reducible refine w_cup ?_
  | with_reducible refine w_neg ?_
  | with_reducible refine w_mean ?_
  | with_reducible refine ⟨_, dLt_ii, ?_⟩
  | with_reducible refine ⟨_, dGt_ii, ?_⟩
  | with_reducible refine ⟨_, dLe_ii, ?_⟩
  | with_reducible refine ⟨_, dGe_ii, ?_⟩
  | with_reducible refine ⟨_, dEq_ii, ?_⟩
  | with_reducible refine ⟨_, dNe_ii, ?_⟩
  | with_reducible refine ⟨_, dLe_ii, fun _ => ?_, fun _ => ?_⟩
  | with_reducible refine ⟨_, dLt_ii, fun _ => ?_, fun _ => ?_⟩
  | with_reducible refine ⟨_, dAdd_ii, ?_⟩
  | with_reducible refine ⟨_, dSub_ii, ?_⟩
  | with_reducible refine ⟨_, isi_int_int, ?_⟩
  | with_reducible refine ⟨_, isi_int_bool, ?_⟩
  | with_reducible refine ⟨_, isi_int_str, ?_⟩
  | with_reducible refine ⟨_, isi_int_tuple, ?_⟩
  | with_reducible refine ⟨_, isi_tuple_int, ?_⟩
  | with_reducible refine ⟨_, isi_tuple_bool, ?_⟩
  | with_reducible refine ⟨_, isi_tuple_str, ?_⟩
  | with_reducible refine ⟨_, isi_tuple_tuple, ?_⟩
  | with_reducible refine ⟨_, isi_str_int, ?_⟩
  | with_reducible refine ⟨_, isi_str_bool, ?_⟩
  | with_reducible refine ⟨_, isi_str_str, ?_⟩
  | with_reducible refine ⟨_, isi_str_tuple, ?_⟩
  | with_reducible refine ⟨_, isi_bool_int, ?_⟩
  | with_reducible refine ⟨_, isi_bool_bool, ?_⟩
  | with_reducible refine ⟨_, isi_bool_str, ?_⟩
  | with_reducible refine ⟨_, isi_bool_tuple, ?_⟩
  | with_reducible refine ⟨_, isi_none_int, ?_⟩
  | with_reducible refine ⟨_, isi_none_bool, ?_⟩
  | with_reducible refine ⟨_, isi_none_str, ?_⟩
  | with_reducible refine ⟨_, isi_none_tuple, ?_⟩
  | with_reducible refine ⟨_, isi_list_int, ?_⟩
  | with_reducible refine ⟨_, isi_list_bool, ?_⟩
  | with_reducible refine ⟨_, isi_list_str, ?_⟩
  | with_reducible refine ⟨_, isi_list_tuple, ?_⟩
  | with_reducible refine ⟨true, rfl, fun _ => ?_, fun h => absurd h (by decide)⟩
  | with_reducible refine ⟨false, rfl, fun h => absurd h (by decide), fun _ => ?_⟩
  | (fail_if_success with_reducible refine mul_shape ?_); (fail_if_success with_reducible refine mul2_shape ?_); with_reducible refine ⟨_, rfl, fun hb => ?_, fun hb => ?_⟩
  | (fail_if_success with_reducible refine mul_shape ?_); (fail_if_success with_reducible refine mul2_shape ?_); with_reducible refine ⟨_, rfl, ?_⟩
  | with_reducible refine ⟨fun hb => ?_, fun hb => ?_⟩
  | with_reducible exact ⟨rfl, rfl⟩
  | with_reducible refine ⟨(rfl : isLst _ = true), ?_⟩)
section
variable {α β : Type} {g g1 : Tg} {t t1 e : Ev} {src src1 : Evs} {own vs1 : List Nat} {env : MP.Env} {cp : Cup} {P : D → Cup → Prop}
theorem w_lc2 (h : Wp (src env cp) fun ds c => Wp (lcGo2 vs1 g t src1 g1 t1 e (wipeE env own) ds c) fun ys k => ys.length ≤ 16777216 ∧ P (.list ys) k) : Wp (eLc2 own vs1 g src t g1 src1 t1 e env cp) P := w_bind (w_ex h fun _ _ q => w_bind (w_ex q fun ys k z => by
  have : retL ys k = .ok (.list ys) k := if_pos (okLen_of z.1)
  exact w_eq this z.2))
/-- two clauses over things laid as data -/
theorem lcGo2_mapP {f : α → D} {tt : α → Bool} {ee : α → List D} : ∀ {l : List α} {cp : Cup}, (∀ a ∈ l, ∃ env', g (f a) env = some env' ∧ ∀ cp, t env' cp = .ok (.bool (tt a)) cp ∧ (tt a = true → ∃ ds, src1 env' cp = .ok ds cp ∧ lcGo g1 t1 e (wipeE env' vs1) ds cp = .ok (ee a) cp)) → lcGo2 vs1 g t src1 g1 t1 e env (l.map f) cp = .ok ((l.filter tt).flatMap ee) cp
  | [], _, _ => rfl
  | d :: ds, cp, h => by
    obtain ⟨env', h1, h2⟩ := h d List.mem_cons_self
    obtain ⟨h3, h4⟩ := h2 cp
    have ih := lcGo2_mapP (l := ds) (cp := cp) fun x hx => h x (List.mem_cons_of_mem _ hx)
    rw [List.map_cons, lcGo2, h1]
    dsimp only
    rw [h3]
    cases ht : tt d with
    | true =>
      rw [List.filter_cons_of_pos ht]
      obtain ⟨es, h5, h6⟩ := h4 ht
      show (nE (src1 env' cp)).bind _ = _
      rw [h5]
      show (lcGo g1 t1 e (wipeE env' vs1) es cp).bind _ = _
      rw [h6]
      show (lcGo2 vs1 g t src1 g1 t1 e env (ds.map f) cp).bind _ = _
      rw [ih]
      rfl
    | false =>
      rw [List.filter_cons_of_neg (by rw [ht]; decide)]
      exact ih
theorem lcGo2_mapA {f : α → D} {ee : α → List D} {l : List α} {cp : Cup} (h : ∀ a ∈ l, ∃ env', g (f a) env = some env' ∧ ∀ cp, ∃ ds, src1 env' cp = .ok ds cp ∧ lcGo g1 t1 e (wipeE env' vs1) ds cp = .ok (ee a) cp) : lcGo2 vs1 g (eC (.bool true)) src1 g1 t1 e env (l.map f) cp = .ok (l.flatMap ee) cp := by
  rw [lcGo2_mapP (tt := fun _ => true) (ee := ee) fun a ha => by
    obtain ⟨env', h1, h2⟩ := h a ha
    exact ⟨env', h1, fun cp => ⟨rfl, fun _ => h2 cp⟩⟩, List.filter_eq_self.mpr fun _ _ => rfl]
end
theorem rangeL0 (n : Nat) : rangeL 0 n = (List.range n).map fun i : Nat => (.int (i : Int) : D) := by
  unfold rangeL
  refine List.map_congr_left fun i _ => ?_
  rw [Int.zero_add]
theorem rangeLn (lo n : Nat) : rangeL lo n = (List.range' lo n).map fun i : Nat => (.int (i : Int) : D) := by
  unfold rangeL
  rw [List.range'_eq_map_range, List.map_map]
  refine List.map_congr_left fun i _ => ?_
  show (.int ((lo : Int) + (i : Int)) : D) = .int (((lo + i : Nat) : Nat) : Int)
  rw [Int.natCast_add]
end MP.SI
namespace PySem.W
open PySem PySem.Calls PyProof.Rows
section
variable {prog : Program} {w : World} {A : Around} {E : Value → Shared → Prop} {s : Shared} {T : String} {r d : Addr} {n : Nat} {P : Nat → Value → Prop} {OK : Heap → Prop}
variable {β : Type} {R : Value → β → Prop} {enc : β → PyData} {bs : List β}
/-- sorted of anything that is listed, its items data -/
theorem mp_sorted_src {Q : Value → Shared → Prop} (K : KdlSrc prog w T r d n P OK) (hh : A.handled = none) (hok : OK s.heap) (hn : n ≤ sizeLine)
    (each : ∀ acc : Array Value, ItemsOf P acc n → EachIs R acc.toList bs ∧ EachIs (fun v b => ∃ as, Reads s.heap v (enc b) as) acc.toList bs) (hal : AllAlike (bs.map enc)) (hk : Sortable (bs.map enc)) (hL : bs.length ≤ sizeLine)
    (hu : ∀ b, b ∈ bs → A.units + 2 + (enc b).depth < cLine)
    (h : ∀ (h1 h' : Heap) (tk c : Nat) (out : List Value), (∀ b o, s.heap.get? b = some o → h1.get? b = some o) → (∀ b o, h1.get? b = some o → h'.get? b = some o) → h'.get? h1.objs.size = some (seqObj "list" out.toArray c) → EachIs R out (bs.mergeSort (dataLe false enc)) → Q (.ref h1.objs.size) { s with heap := h', toks := tk }) :
    wpAny (model prog w) A (call (.builtin "sorted") [.ref r]) Q E s := by
  refine call_function_entry_kw kind_sorted plain_sorted entry_sorted (args_sorted1 _) ?_
  unfold Builtin.«sorted»
  refine wpAny_bind (m := checkCount "sorted" 1 1 _) (wpAny_pure ?_)
  refine wpAny_bind (kdu_collect (A := A.in1) K hh hok hn fun h' tk acc hk' hacc => ?_)
  obtain ⟨e, er⟩ := each acc hacc
  have hLv : acc.toList.length ≤ sizeLine := by rw [e.length]; exact hL
  refine wpAny_bind (wpAny_newList ?_ hLv)
  have hoL : (h'.push (seqObj "list" acc.toList.toArray 0)).get? h'.objs.size = some (seqObj "list" acc.toList.toArray 0) := Heap.get?_push_size _ rfl
  have er' : EachIs (fun v b => ∃ as, Reads (sortingHeap (h'.push (seqObj "list" acc.toList.toArray 0)) h'.objs.size acc.toList) v (enc b) as) acc.toList bs := er.mono fun _ _ ⟨as, r⟩ => ⟨as, PyProof.Rows.Reads.keeps (fun b o q => sortingHeap_old (Nat.ne_of_lt (Heap.lt_size (hk' _ _ q))) (Heap.get?_push_of_some _ (hk' _ _ q))) r⟩
  have S := SortsAt.data (prog := prog) (w := w) (A := A.in1.in1) (s := { s with heap := sortingHeap (h'.push (seqObj "list" acc.toList.toArray 0)) h'.objs.size acc.toList, toks := tk }) (each_map (R := fun v d => ∃ as, Reads (sortingHeap (h'.push (seqObj "list" acc.toList.toArray 0)) h'.objs.size acc.toList) v d as) enc er') hal hk (bound_map hu)
  show wpAny _ _ _ _ _ { s with heap := h'.push (seqObj "list" acc.toList.toArray 0), toks := tk }
  refine wpAny_bind (wpAny_holding (wpAny_call_entry_kw slot_list_sort ⟨_, hoL, rfl⟩ entry_list_sort ?body (args_list_sort _)))
  case body =>
    show wpAny (model prog w) A.in1.in1 (Builtin.«list.sort» ⟨[.ref h'.objs.size], []⟩) _ _ _
    refine list_sort_vals (s := { s with heap := h'.push (seqObj "list" acc.toList.toArray 0), toks := tk }) hoL S hLv ⟨_, rfl, wpAny_pure ⟨_, rfl, ?_⟩⟩
    obtain ⟨c, hc⟩ := sortedHeap_at (vs := acc.toList) (out := (sortVals (dataKind (sortingHeap (h'.push (seqObj "list" acc.toList.toArray 0)) h'.objs.size acc.toList) (bs.map enc)) false acc.toList acc.toList).toArray) hoL
    refine h h' _ tk c _ hk' (fun b o q => ?_) hc (sortVals_data false e er' hal)
    have hb := Heap.lt_size q
    rw [sortedHeap_old (Nat.ne_of_lt hb) (by rw [size_push']; exact Nat.lt_succ_of_lt hb)]
    exact Heap.get?_push_of_some _ q
end
end PySem.W

namespace L2
open PySem PySem.Spec PyProof.Rows MP
/-! ## dicts with tuple keys, by their entries -/
section
variable {X : Cx}
/-- the entries of a walk over a dict with tuple keys are the keys -/
theorem keys_are {es : Array DictEntry} {P : Program} {w : World} {ks : List (List Key × Addr × Value)} {acc : Array Value} (he : es.toList = ks.map (entryOfKey (tupleKind (mixKind P w)))) (it : ItemsOf (fun i v => ∃ en : DictEntry, es[i]? = some en ∧ v = en.key) acc es.size) :
    acc.toList = (ks.map fun x => x.2.1).map Value.ref := by
  have l1 : es.size = ks.length := size_of_entries he
  have ea : acc.toList = ks.map fun x => Value.ref x.2.1 := by
    have hl : acc.toList.length = ks.length := by rw [Array.length_toList, it.1]; exact l1
    apply List.ext_getElem?
    intro j
    rw [List.getElem?_map]
    cases hj : acc.toList[j]? with
    | none =>
      have h1 := List.getElem?_eq_none_iff.mp hj
      rw [List.getElem?_eq_none (by omega)]
      all_goals rfl
    | some v =>
      obtain ⟨en, hen, hv⟩ := it.2 j v (by rw [← Array.getElem?_toList]; exact hj)
      have qe := entry_at he j
      rw [hen] at qe
      cases hb : ks[j]? with
      | none =>
        rw [hb] at qe
        exact nomatch (show some en = none from qe)
      | some b =>
        rw [hb] at qe
        have e2 : en = entryOfKey (tupleKind (mixKind P w)) b := Option.some.inj qe
        rw [hv, e2]
        all_goals rfl
  rw [ea, List.map_map]; all_goals rfl
theorem call_list_td (hc : X.calm = true) : CallR X (.type "list") (fun xs H Q => ∃ d ks, xs = [V.ref d] ∧ H d = some (TD X.prog X.w d ks) ∧ ks.length ≤ sizeLine ∧ ∀ p, H p = none → Q (.ref p) (upd H p (.lst ((ks.map fun x => x.2.1).map V.ref)))) := by
  intro pins s σ H xs us Q I r h
  obtain ⟨d, ks, rfl, hd, hz, q⟩ := h
  obtain ⟨u, rfl, rx⟩ := r.one
  cases rx
  obtain ⟨⟨hs, o, es, ep, ho, hx, hdt, he, hn⟩, _⟩ := (show ObjOk X.prog X.w H s.heap d (TD X.prog X.w d ks) from I.hok d _ hd)
  have l1 : es.size = ks.length := size_of_entries he
  refine PySem.W.kdl_call (kdl_raw hs hx hdt) (I.ok.hd hc) ho (by omega) fun h' tk acc' c' kp e it => ?_
  have eb := keys_are he it
  have rv : Vals ((ks.map fun x => x.2.1).map V.ref) acc'.toList := by rw [eb]; exact vals_refs _
  have hz : ((ks.map fun x => x.2.1).map V.ref).length ≤ sizeLine := by rw [List.length_map, List.length_map]; omega
  refine ⟨.ref s.heap.objs.size, _, I.laid (t' := tk) (o := .lst ((ks.map fun x => x.2.1).map V.ref)) kp (Nat.le_refl _) ?_, rfl, q _ (I.hok.fresh (Nat.le_refl _))⟩
  exact ⟨hz, acc'.toList, c', rv, by rw [Array.toArray_toList]; exact e⟩
/-- sorted of a dict with tuple keys -/
theorem cr_sort_td (hc : X.calm = true) (hu : X.A.units + 65 < cLine) : CallR X (.builtin "sorted") (fun vs H Q => ∃ (d : Addr) (ks : List (List Key × Addr × Value)) (ds : List D), vs = [V.ref d] ∧ H d = some (TD X.prog X.w d ks) ∧ ks.length ≤ sizeLine ∧
    DpAll X.K H ((ks.map fun x => x.2.1).map V.ref) ds ∧ srtOk ds = true ∧
    ∀ p, H p = none → Q (.ref p) (upd H p (.lst (((((ks.map fun x => x.2.1).map V.ref).zip ds).mergeSort (PySem.W.dataLe false fun b => b.2)).map (·.1))))) := by
  intro pins s σ H vs us Q I r h
  obtain ⟨d, ks, ds, rfl, hd, hz, hdp, hok, q⟩ := h
  obtain ⟨hal, hsk, hdep⟩ := srtOk_alike hok
  obtain ⟨u, rfl, rx⟩ := r.one
  cases rx
  obtain ⟨⟨hs, o, es, ep, ho, hx, hdt, he, hn⟩, _⟩ := (show ObjOk X.prog X.w H s.heap d (TD X.prog X.w d ks) from I.hok d _ hd)
  have l1 : es.size = ks.length := size_of_entries he
  generalize hxs : (ks.map fun x => x.2.1).map V.ref = xs at hdp q
  have hxl : xs.length = ks.length := by rw [← hxs, List.length_map, List.length_map]
  have e2 : (xs.zip ds).map (·.2) = ds := by
    rw [List.map_snd_zip]
    rw [DpAll_length (K := X.kk) hdp]
    exact Nat.le_refl _
  have zl : (xs.zip ds).length = xs.length := by rw [List.length_zip, DpAll_length (K := X.kk) hdp, Nat.min_self]
  refine PySem.W.mp_sorted_src (bs := xs.zip ds) (enc := fun b => b.2) (R := fun u (b : V × D) => RelV b.1 u) (kdl_raw hs hx hdt) (I.ok.hd hc) ho (by omega) (fun acc it => ?_) (by rw [e2]; exact hal) (by rw [e2]; exact hsk) (by rw [zl, hxl]; exact hz) (fun b hb => ?_) fun h1 h' tk c out k1 k2 ht eo => ?_
  · have eb := keys_are he it
    have rv : Vals xs acc.toList := by rw [eb, ← hxs]; exact vals_refs _
    exact each_zip (h := s.heap) (K := X.kk) I rv hdp
  · have : b.2 ∈ ds := by rw [← e2]; exact List.mem_map.mpr ⟨b, hb, rfl⟩
    have := (hdep _ this).2
    show X.A.units + 2 + b.2.depth < cLine
    omega
  · have hlen2 : (((xs.zip ds).mergeSort (PySem.W.dataLe false fun b => b.2)).map (·.1)).length ≤ sizeLine := by
      rw [List.length_map, (List.mergeSort_perm _ _).length_eq, zl, hxl]; exact hz
    have I1 : Inv X pins σ H { s with heap := h1, toks := tk } := I.kept k1
    exact ⟨.ref _, upd H h1.objs.size (.lst (((xs.zip ds).mergeSort (PySem.W.dataLe false fun b => b.2)).map (·.1))), I1.laid (t' := tk) k2 (Nat.le_refl _) ⟨hlen2, out, c, vals_each eo, ht⟩, rfl, q _ (I1.hok.fresh (Nat.le_refl _))⟩
end
end L2
namespace MP
open PySem PySem.Spec PyProof.Rows L2
/-! ## dicts: in, not in, d[k] = v, {}, list, sorted -/
theorem td_ok {P : Program} {w : World} {H : Hp} {h : Heap} {a : Addr} {xs : List (List Key × Addr × Value)} (x : TDp P w a xs h) : ObjOk P w H h a (TD P w a xs) := by
  refine ⟨x, ?_, fun h1 h2 q k => ?_⟩
  · obtain ⟨_, o, es, ep, e1, _⟩ := x
    exact ⟨o, e1⟩
  · obtain ⟨z, o, es, ep, e1, r⟩ := q
    exact ⟨z, o, es, ep, k _ e1, r⟩
section
variable {X : Cx} {pins : List (Addr × Obj)} {σ : L2.St} {H : Hp} {s : Shared} {a : Addr}
/-- the empty dict is of both kinds -/
theorem dk_emptyH (I : Inv X pins σ H s) (e : H a = some (.dK [])) : (a == sysModules) = false ∧ s.heap.DictOfH (tupleKind (mixKind X.prog X.w)) a [] := by
  obtain ⟨z, lo, vs, rel, o, es, ep, e1, e2, e3, e4, e5, e6⟩ := dk_rd I.hok (.inl e)
  cases rel
  have : es.toList = [] := by
    generalize es.toList = l at e5
    cases e5
    rfl
  exact ⟨lo, o, es, ep, e1, e2, e3, by rw [this]; rfl, ⟨fun x hx => absurd hx List.not_mem_nil, List.nodup_nil⟩⟩
def rInDk (K : MpK) : R2 := fun x y H Q => ∃ a kvs k, y = .ref a ∧ H a = some (.dK kvs) ∧ x = kV k ∧ Q (.bl (valV kvs k).isSome) H
def rInTd (K : MpK) : R2 := fun x y H Q => ∃ a xs ks b, y = .ref a ∧ (H a = some (TD K.P K.w a xs) ∨ (xs = [] ∧ H a = some (.dK []))) ∧ (∀ e ∈ xs, SqT K.k H e.2.1 (e.1.map kV)) ∧ x = .ref b ∧ SqT K.k H b (ks.map kV) ∧ Q (.bl (atKey xs ks).isSome) H
def rNotInDk (K : MpK) : R2 := fun x y H Q => ∃ a kvs k, y = .ref a ∧ H a = some (.dK kvs) ∧ x = kV k ∧ Q (.bl (!(valV kvs k).isSome)) H
def rNotInTd (K : MpK) : R2 := fun x y H Q => ∃ a xs ks b, y = .ref a ∧ (H a = some (TD K.P K.w a xs) ∨ (xs = [] ∧ H a = some (.dK []))) ∧ (∀ e ∈ xs, SqT K.k H e.2.1 (e.1.map kV)) ∧ x = .ref b ∧ SqT K.k H b (ks.map kV) ∧ Q (.bl (!(atKey xs ks).isSome)) H
theorem td_both {xs : List (List Key × Addr × Value)} (I : Inv X pins σ H s) (h : H a = some (TD X.prog X.w a xs) ∨ (xs = [] ∧ H a = some (.dK []))) (hk : ∀ e ∈ xs, SqT X.K H e.2.1 (e.1.map kV)) : (a == sysModules) = false ∧ s.heap.DictOfH (tupleKind (mixKind X.prog X.w)) a xs := by
  rcases h with h | ⟨rfl, h⟩
  · exact td_of I h hk
  · exact dk_emptyH I h
end
section
variable {X : Cx}
theorem op_in_dk (hu : X.A.units + 65 < cLine) : OpR X (compareOp .In) (rInDk X.kk) := by
  intro pins s σ H x y v u Q I rx ry h
  obtain ⟨a, kvs, k, rfl, hd, rfl, q⟩ := h
  cases ry
  exact d_in (by omega) I (DGet.k hd) rx fun s' I' => ⟨.bl _, H, I', rfl, q⟩
theorem op_in_td (hu : X.A.units + 65 < cLine) : OpR X (compareOp .In) (rInTd X.kk) := by
  intro pins s σ H x y v u Q I rx ry h
  obtain ⟨a, xs, ks, b, rfl, hd, hk, rfl, hb, q⟩ := h
  cases ry
  cases rx
  obtain ⟨z, dd⟩ := td_both I hd hk
  exact wpAny_in_heap (tupleKind_room_in1 (by omega)) (key_ofS I hb) z dd ⟨.bl _, H, I.tok _, rfl, q⟩
theorem op_notin_dk (hu : X.A.units + 65 < cLine) : OpR X (compareOp .NotIn) (rNotInDk X.kk) := by
  intro pins s σ H x y v u Q I rx ry h
  obtain ⟨a, kvs, k, rfl, hd, rfl, q⟩ := h
  cases ry
  exact d_notIn (by omega) I (DGet.k hd) rx fun s' I' => ⟨.bl _, H, I', rfl, q⟩
theorem op_notin_td (hu : X.A.units + 65 < cLine) : OpR X (compareOp .NotIn) (rNotInTd X.kk) := by
  intro pins s σ H x y v u Q I rx ry h
  obtain ⟨a, xs, ks, b, rfl, hd, hk, rfl, hb, q⟩ := h
  cases ry
  cases rx
  obtain ⟨z, dd⟩ := td_both I hd hk
  exact wpAny_notIn_heap (tupleKind_room_in1 (by omega)) (key_ofS I hb) z dd ⟨.bl _, H, I.tok _, rfl, q⟩
/-! the keys of one kind -/
def tupKeys (ds : List (D × D)) : Bool := ds.all fun kv => match kv.1 with
  | .tuple _ => true
  | _ => false
def isK (k : D) : D → Bool := match keyOf k with
  | some κ => fun d => decide (keyOf d = some κ)
  | none => match tkOf k with
    | some ks => fun d => decide (tkOf d = some ks)
    | none => fun _ => false
/-- the key may be looked for in a dict with these keys -/
def kindOk (ds : List (D × D)) (k : D) : Bool := match keyOf k with
  | some _ => flatKeys ds
  | none => match tkOf k with
    | some _ => tupKeys ds
    | none => false
def hasK (ds : List (D × D)) (k : D) : Bool := ds.any fun kv => isK k kv.1
def dInD : D → D → Option D
  | k, .dict ds => if kindOk ds k then some (.bool (hasK ds k)) else none
  | _, _ => none
def dNotInD : D → D → Option D
  | k, .dict ds => if kindOk ds k then some (.bool (!hasK ds k)) else none
  | _, _ => none
theorem RpK.has {K : MpK} {F : Hp} (κ : Key) : ∀ {kvs : List (Key × V)} {ds : List (D × D)}, RpK K F kvs ds → (ds.any fun kv => decide (keyOf kv.1 = some κ)) = (valV kvs κ).isSome
  | _, _, .nil => rfl
  | _, _, @RpK.cons _ _ k v vs d ds h r => by
    have ih := RpK.has κ r
    rw [List.any_cons, ih]
    by_cases hk : k = κ
    · subst hk
      rw [valV_pos rfl]
      simp only [keyOf_keyD, decide_true, Bool.true_or]
      rfl
    · rw [valV_neg hk, keyOf_keyD, decide_eq_false (fun z => hk (Option.some.inj z)), Bool.false_or]
theorem RpT.has {K : MpK} {F : Hp} (ks : List Key) : ∀ {xs : List (List Key × Addr × Value)} {ds : List (D × D)}, RpT K F xs ds → (ds.any fun kv => decide (tkOf kv.1 = some ks)) = (atKey xs ks).isSome
  | _, _, .nil => rfl
  | _, _, @RpT.cons _ _ k b u v vs d ds h1 h2 h3 h4 h r => by
    have ih := RpT.has ks r
    rw [List.any_cons, ih]
    unfold atKey
    have e : tkOf (.tuple (k.map keyD)) = some k := keysOf_map k
    by_cases hk : k = ks
    · subst hk
      rw [List.find?_cons]
      simp only [e, decide_true, Bool.true_or]
      rfl
    · rw [List.find?_cons]
      simp only [e]
      rw [decide_eq_false (fun z => hk (Option.some.inj z)), Bool.false_or, decide_eq_false hk]
/-- which kind a dict is, by a key that may be looked for -/
theorem kind_cases {K : MpK} {F H : Hp} {a : Addr} {ds : List (D × D)} {k : D} (h : kindOk ds k = true) (q : (∃ vs, H a = some (.dK vs) ∧ RpK K F vs ds) ∨ ∃ xs, H a = some (TD K.P K.w a xs) ∧ xs ≠ [] ∧ xs.length ≤ sizeLine ∧ RpT K F xs ds) :
    (∃ (κ : Key) (vs : List (Key × V)), k = keyD κ ∧ H a = some (.dK vs) ∧ RpK K F vs ds) ∨ ∃ (ks : List Key) (xs : List (List Key × Addr × Value)), keyOf k = none ∧ k = .tuple (ks.map keyD) ∧ (H a = some (TD K.P K.w a xs) ∨ (xs = [] ∧ H a = some (.dK []))) ∧ xs.length ≤ sizeLine ∧ RpT K F xs ds := by
  unfold kindOk at h
  cases h1 : keyOf k with
  | some κ =>
    rw [h1] at h
    have h : flatKeys ds = true := h
    rcases q with ⟨vs, e, r⟩ | ⟨xs, e, n, l, r⟩
    · exact .inl ⟨κ, vs, keyD_of h1, e, r⟩
    · rw [r.notFlat n] at h; cases h
  | none =>
    rw [h1] at h
    cases h2 : tkOf k with
    | none => rw [h2] at h; cases h
    | some ks =>
      rw [h2] at h
      have h : tupKeys ds = true := h
      rcases q with ⟨vs, e, r⟩ | ⟨xs, e, n, l, r⟩
      · cases r with
        | nil => exact .inr ⟨ks, [], rfl, tkOf_eq h2, .inr ⟨rfl, e⟩, Nat.zero_le _, .nil⟩
        | @cons κ _ _ _ _ _ _ =>
          exfalso
          cases κ <;> cases h
      · exact .inr ⟨ks, xs, rfl, tkOf_eq h2, .inl e, l, r⟩
theorem isK_flat (κ : Key) : isK (keyD κ) = fun d => decide (keyOf d = some κ) := by
  unfold isK
  rw [keyOf_keyD]
theorem isK_tup (ks : List Key) : isK (.tuple (ks.map keyD)) = fun d => decide (tkOf d = some ks) := by
  unfold isK
  show (match tkOf (.tuple (ks.map keyD)) with
    | some ks => fun d => decide (tkOf d = some ks)
    | none => fun _ => false) = _
  have e : tkOf (.tuple (ks.map keyD)) = some ks := keysOf_map ks
  rw [e]
theorem hasK_flat {ds : List (D × D)} {κ : Key} : hasK ds (keyD κ) = ds.any fun kv => decide (keyOf kv.1 = some κ) := by unfold hasK; rw [isK_flat]
theorem hasK_tup {ds : List (D × D)} {ks : List Key} : hasK ds (.tuple (ks.map keyD)) = ds.any fun kv => decide (tkOf kv.1 = some ks) := by unfold hasK; rw [isK_tup]
theorem ops_inD (hu : X.A.units + 65 < cLine) : OpS X (compareOp .In) dInD := by
  refine ⟨_, (op_in_dk hu).or (op_in_td hu), fun c W F H x y a b d Q st ra rb e q => ?_⟩
  cases b with
  | dict ds =>
    have e : (if kindOk ds a then some (PyData.bool (hasK ds a)) else none) = some d := by cases a <;> exact e
    obtain ⟨hk, rfl⟩ := if_some e
    obtain ⟨p, rfl, qq⟩ := rb.dict st.sub
    rcases kind_cases hk qq with ⟨κ, vs, rfl, e1, r⟩ | ⟨ks, xs, _, rfl, e1, l, r⟩
    · have ra := (ra.flat (by cases κ <;> rfl)).key
      refine .inl ⟨p, vs, κ, rfl, e1, ra, ?_⟩
      rw [← r.has κ, ← hasK_flat]
      exact q F H _ st.refl rfl (fr_flat (.bl _))
    · obtain ⟨b', rfl, hb, _, _⟩ := (ra.flat rfl).tkey
      refine .inr ⟨p, xs, ks, b', rfl, e1, fun e he => SqT_same st.sub (r.keysT e he), rfl, SqT_same st.sub hb, ?_⟩
      rw [← r.has ks, ← hasK_tup]
      exact q F H _ st.refl rfl (fr_flat (.bl _))
  | _ => cases a <;> cases e
theorem ops_notinD (hu : X.A.units + 65 < cLine) : OpS X (compareOp .NotIn) dNotInD := by
  refine ⟨_, (op_notin_dk hu).or (op_notin_td hu), fun c W F H x y a b d Q st ra rb e q => ?_⟩
  cases b with
  | dict ds =>
    have e : (if kindOk ds a then some (PyData.bool (!hasK ds a)) else none) = some d := by cases a <;> exact e
    obtain ⟨hk, rfl⟩ := if_some e
    obtain ⟨p, rfl, qq⟩ := rb.dict st.sub
    rcases kind_cases hk qq with ⟨κ, vs, rfl, e1, r⟩ | ⟨ks, xs, _, rfl, e1, l, r⟩
    · have ra := (ra.flat (by cases κ <;> rfl)).key
      refine .inl ⟨p, vs, κ, rfl, e1, ra, ?_⟩
      rw [← r.has κ, ← hasK_flat]
      exact q F H _ st.refl rfl (fr_flat (.bl _))
    · obtain ⟨b', rfl, hb, _, _⟩ := (ra.flat rfl).tkey
      refine .inr ⟨p, xs, ks, b', rfl, e1, fun e he => SqT_same st.sub (r.keysT e he), rfl, SqT_same st.sub hb, ?_⟩
      rw [← r.has ks, ← hasK_tup]
      exact q F H _ st.refl rfl (fr_flat (.bl _))
  | _ => cases a <;> cases e
/-! d[k] = v, xs[i] = v -/
def stoD (ds : List (D × D)) (k d : D) : List (D × D) := if hasK ds k then ds.map fun kv => if isK k kv.1 then (kv.1, d) else kv else ds ++ [(k, d)]
def dPut (x k d : D) : Option D := match x with
  | .list ds => match k with
    | .int j => (ixN ds.length j).map fun n => .list (ds.set n d)
    | _ => none
  | .dict ds => if kindOk ds k && decide (ds.length < 16777216) then some (.dict (stoD ds k d)) else none
  | _ => none
theorem RpK.put {K : MpK} {F : Hp} {κ : Key} {v : V} {d : D} (rv : Rp K F v d) {kvs : List (Key × V)} {ds : List (D × D)} (r : RpK K F kvs ds) : RpK K F (putK kvs κ v) (stoD ds (keyD κ) d) := by
  have rm : ∀ {kvs : List (Key × V)} {ds : List (D × D)}, RpK K F kvs ds → RpK K F (kvs.map fun kv => if kv.1 = κ then (kv.1, v) else kv) (ds.map fun kv => if isK (keyD κ) kv.1 then (kv.1, d) else kv) := by
    intro kvs ds r
    induction ds generalizing kvs with
    | nil => cases r; exact .nil
    | cons p l ih =>
      cases r with
      | @cons k w vs e ds h r2 =>
        rw [List.map_cons, List.map_cons]
        have e1 : isK (keyD κ) (keyD k) = decide (k = κ) := by
          rw [isK_flat]
          show decide (keyOf (keyD k) = some κ) = _
          rw [keyOf_keyD]
          by_cases hk : k = κ
          · rw [hk, decide_eq_true rfl, decide_eq_true rfl]
          · rw [decide_eq_false hk, decide_eq_false fun z => hk (Option.some.inj z)]
        by_cases hk : k = κ
        · have e2 : isK (keyD κ) (keyD k) = true := by rw [e1]; exact decide_eq_true hk
          simp only [e2, if_pos hk, if_true]
          exact .cons rv (ih r2)
        · have e2 : isK (keyD κ) (keyD k) = false := by rw [e1]; exact decide_eq_false hk
          simp only [e2, if_neg hk, Bool.false_eq_true, if_false]
          exact .cons h (ih r2)
  have ra : ∀ {kvs : List (Key × V)} {ds : List (D × D)}, RpK K F kvs ds → RpK K F (kvs ++ [(κ, v)]) (ds ++ [(keyD κ, d)]) := by
    intro kvs ds r
    induction ds generalizing kvs with
    | nil => cases r; exact .cons rv .nil
    | cons p l ih =>
      cases r with
      | cons h r2 => exact .cons h (ih r2)
  unfold putK stoD
  rw [hasK_flat, r.has κ, ← valV_any]
  split
  · exact rm r
  · exact ra r
theorem RpT.put {K : MpK} {F : Hp} {ks : List Key} {b : Addr} {u : Value} {v : V} {d : D} (hb : SqT K F b (ks.map kV)) (hl : ks.length ≤ sizeLine) (hs : ∀ x : Str, .inr x ∈ ks → sOk x) (hu : RelV v u) (rv : Rp K F v d) {xs : List (List Key × Addr × Value)} {ds : List (D × D)} (r : RpT K F xs ds) :
    RpT K F (storedH xs ks b u) (stoD ds (.tuple (ks.map keyD)) d) := by
  have rm : ∀ {xs : List (List Key × Addr × Value)} {ds : List (D × D)}, RpT K F xs ds → RpT K F (xs.map (putAt ks u)) (ds.map fun kv => if isK (.tuple (ks.map keyD)) kv.1 then (kv.1, d) else kv) := by
    intro kvs ds r
    induction ds generalizing kvs with
    | nil => cases r; exact .nil
    | cons p l ih =>
      cases r with
      | @cons k b' u' w vs e ds h1 h2 h3 h4 h r2 =>
        rw [List.map_cons, List.map_cons]
        have e1 : isK (.tuple (ks.map keyD)) (.tuple (k.map keyD)) = decide (k = ks) := by
          rw [isK_tup]
          show decide (keysOf (k.map keyD) = some ks) = _
          rw [keysOf_map]
          by_cases hk : k = ks
          · rw [hk, decide_eq_true rfl, decide_eq_true rfl]
          · rw [decide_eq_false hk, decide_eq_false fun z => hk (Option.some.inj z)]
        unfold putAt
        by_cases hk : k = ks
        · have e2 : isK (.tuple (ks.map keyD)) (.tuple (k.map keyD)) = true := by rw [e1]; exact decide_eq_true hk
          simp only [e2, if_pos hk, if_true]
          exact .cons h1 h2 h3 hu rv (ih r2)
        · have e2 : isK (.tuple (ks.map keyD)) (.tuple (k.map keyD)) = false := by rw [e1]; exact decide_eq_false hk
          simp only [e2, if_neg hk, Bool.false_eq_true, if_false]
          exact .cons h1 h2 h3 h4 h (ih r2)
  have ra : ∀ {xs : List (List Key × Addr × Value)} {ds : List (D × D)}, RpT K F xs ds → RpT K F (xs ++ [(ks, b, u)]) (ds ++ [(.tuple (ks.map keyD), d)]) := by
    intro kvs ds r
    induction ds generalizing kvs with
    | nil => cases r; exact .cons hb hl hs hu rv .nil
    | cons p l ih =>
      cases r with
      | cons h1 h2 h3 h4 h r2 => exact .cons h1 h2 h3 h4 h (ih r2)
  unfold storedH stoD
  rw [hasK_tup, r.has ks]
  split
  · exact rm r
  · exact ra r
theorem storedH_len (xs : List (List Key × Addr × Value)) (ks : List Key) (b : Addr) (u : Value) : (storedH xs ks b u).length ≤ xs.length + 1 ∧ storedH xs ks b u ≠ [] := by
  unfold storedH
  split
  · rename_i h
    refine ⟨by rw [List.length_map]; omega, fun z => ?_⟩
    rw [List.map_eq_nil_iff] at z
    subst z
    cases h
  · exact ⟨by rw [List.length_append]; exact Nat.le_refl _, by simp⟩
def rSetTD (K : MpK) : TSet := fun o i v H Q => ∃ a xs ks b, o = .ref a ∧ i = .ref b ∧ (H a = some (TD K.P K.w a xs) ∨ (xs = [] ∧ H a = some (.dK []))) ∧ (∀ e ∈ xs, SqT K.k H e.2.1 (e.1.map kV)) ∧ SqT K.k H b (ks.map kV) ∧ xs.length < sizeLine ∧
  ∀ u, RelV v u → Q (upd H a (TD K.P K.w a (storedH xs ks b u)))
theorem set_td (hu : X.A.units + 65 < cLine) : PSet X (rSetTD X.kk) := by
  intro pins s σ H o i v ov iv u Q I ro ri rv h
  obtain ⟨a, xs, ks, b, rfl, rfl, hd, hk, hb, hl, q⟩ := h
  cases ro
  cases ri
  obtain ⟨z, dd⟩ := td_both I hd hk
  refine wpAny_setItem_heap (hsz := by omega) (tupleKind_room_in1 (by omega)) (key_ofS I hb) dd fun h' dd' hs => ?_
  obtain ⟨q', es, ep, hq, h2, h3, h4, _, h5⟩ := dd'
  have mu : Mut (H a) := by
    rcases hd with hd | ⟨_, hd⟩
    · rw [hd]; exact True.intro
    · rw [hd]; exact True.intro
  exact ⟨_, d_write I mu hs ⟨q', hq⟩ (td_ok ⟨z, q', es, ep, hq, h2, h3, h4, h5⟩), q u rv⟩
theorem PSet.or {t t' : TSet} (h : PSet X t) (h' : PSet X t') : PSet X (fun o i v H Q => t o i v H Q ∨ t' o i v H Q) := fun pins s σ H o i v ov iv u Q I r1 r2 r3 q => q.elim (h pins s σ H o i v ov iv u Q I r1 r2 r3) (h' pins s σ H o i v ov iv u Q I r1 r2 r3)
end
section
variable {X : Cx} {z : Z} {L O O' : List Nat}
def sPut (i : Nat) (fk fv : Ev) : Sv := fun env cp => match env[i]? with
  | some (some x) => if isBox x then (fv env cp).bind fun d cp1 => (fk env cp1).bind fun k cp2 => match dPut x k d with
    | some y => .ok (.nx (env.set i (some y))) cp2
    | none => .bad
    else .bad
  | _ => .bad
theorem q_put (i : Nat) {y : Str} {ke e : Expr} {fk fv : Ev} {p p3 pos : Pos} (hu : X.A.units + 65 < cLine) (hk : QE X z O ke fk) (h : QE X z O e fv) (hi : i ∈ O := by decide) (hN : X.N[i]? = some y := by rfl)
    (hv : Vis X.env.scope y := by first | exact Or.inl rfl | exact Or.inr (Or.inl rfl) | exact Or.inr (Or.inr rfl)) (hd : (y == ("__debug__" : Str)) = false := by decide) (hcd : (y == ("__classdict__" : Str)) = false := by decide)
    (ha : ∀ v, assign (.Subscript (.Name y p) ke p3) X.env v = (do
      let ov ← holding [v] (eval (.Name y p) X.env)
      let iv ← holding [v, ov] (eval ke X.env)
      standAt p3
      holding [v, ov, iv] (setItem ov iv v)
      release [v, ov, iv] []) := by intro _; rfl)
    (hs : swapsWithSole [.Subscript (.Name y p) ke p3] e pos.line X.env = pure false := by rfl) (hw : swappedStores [.Subscript (.Name y p) ke p3] e X.env = pure none := by rfl)
    (h1 : (assignEach [.Subscript (.Name y p) ke p3] X.env).map (·.2) = [assign (.Subscript (.Name y p) ke p3) X.env] := by rfl) :
    QS X z L O (.Assign [.Subscript (.Name y p) ke p3] e pos) (sPut i fk fv) O := by
  refine ⟨PS.to (ps_asg h.pe (pg_sub (pe_var hN hv hd hcd) hk.pe (PSet.or (PSet.or set_list (set_dict (by omega))) (set_td hu)) ha) hs hw h1) ?_⟩
  rintro Dn σ H ⟨c, W0, F0, H0, env, cp, ⟨W, A, F, p, h1, h2, h3, s0⟩, q⟩
  unfold sPut at q
  split at q
  rotate_left
  · exact q.elim
  rename_i x he
  split at q
  rotate_left
  · exact q.elim
  rename_i hbx
  obtain ⟨a, ha, hσ, ho, hW, hac⟩ := p.own hi he hbx
  refine ⟨c, W, A, env, cp, F, p, (saft_e h1 s0 q).imp fun d cp1 F1 H1 s1 e1 q1 v r => ?_⟩
  have p1 := p.step s1 e1
  have s01 := s0.trans (s1.weak h1)
  refine ⟨.ref a, hσ, c, W, A, env, cp1, F1, p1, (saft_e h1 s01 q1).imp fun k cp2 F2 H2 s2 e2 q2 kv rk => ?_⟩
  have p2 := p1.step s2 e2
  have s02 := s01.trans (s2.weak h1)
  have r2 := r.mono s2.f
  have ho2 : OwnAt X.kk F2 H2 a x := ho.mono (s1.f.trans s2.f) fun o e => s2.h a o hac (s1.h a o hac e)
  cases e3 : dPut x k d with
  | none => simp only [e3] at q2; exact q2.elim
  | some y =>
    simp only [e3] at q2
    have fin : ∀ o, OwnAt X.kk F2 (upd H2 a o) a y → Dn.nx σ (upd H2 a o) := fun o ho3 => q2 _ _ (PreS.mut p2 h1 h2 h3 s02 hi ha he ho3)
    cases x with
    | list ds =>
      cases k with
      | int j =>
        have e3 : (ixN ds.length j).map (fun n => PyData.list (ds.set n d)) = some y := e3
        cases e4 : ixN ds.length j with
        | none => rw [e4] at e3; cases e3
        | some n =>
          rw [e4] at e3
          cases e3
          cases rk
          obtain ⟨vs, hv2, hl, rv⟩ := ho2
          exact .inl (.inl ⟨a, vs, j, n, rfl, rfl, hv2, by rw [rv.length]; exact e4, fin _ ⟨_, upd_same, by rw [List.length_set]; exact hl, rv.set r2 n⟩⟩)
      | _ => cases e3
    | dict ds =>
      have e3 : (if kindOk ds k && decide (ds.length < 16777216) then some (PyData.dict (stoD ds k d)) else none) = some y := e3
      obtain ⟨hk, rfl⟩ := if_some e3
      obtain ⟨hk, hlen⟩ := Bool.and_eq_true_iff.mp hk
      have hlen := of_decide_eq_true hlen
      rcases kind_cases hk ho2 with ⟨κ, vs, rfl, e4, r4⟩ | ⟨ks, xs, _, rfl, e4, l4, r4⟩
      · have rk := rk.key
        refine .inl (.inr ⟨a, _, rfl, .inl ⟨vs, κ, e4, rk, by rw [r4.length, sizeLine_eq]; exact hlen, rfl⟩, fin _ (.inl ⟨_, upd_same, r4.put r2⟩)⟩)
      · obtain ⟨b', rfl, hb, hl5, hs5⟩ := rk.tkey
        have hsub : Same F2 H2 := p2.sub
        refine .inr ⟨a, xs, ks, b', rfl, rfl, e4, fun e he => SqT_same hsub (r4.keysT e he), SqT_same hsub hb, by rw [r4.length, sizeLine_eq]; exact hlen, fun u hu => fin _ (.inr ⟨_, upd_same, (storedH_len _ _ _ _).2, ?_, r4.put hb hl5 hs5 hu r2⟩)⟩
        have := (storedH_len xs ks b' u).1
        rw [r4.length] at this
        rw [sizeLine_eq]
        omega
    | _ => cases hbx
end
/-! {} -/
theorem q_dnew {X : Cx} {z : Z} {O : List Nat} {pos : Pos} : QF X z O (.Dict [] [] pos) (eC (.dict [])) := ⟨PE.to pe_dnewK fun σ H Q ⟨c, W, A, env, cp, F, p, q⟩ pa hp =>
  q F _ (p.sit.new hp) ((p.sit.keepc hp).trans p.cup) _ (.inr ⟨pa, rfl, hp, p.sit.free hp, .inl ⟨_, upd_same, .nil⟩⟩)⟩
end MP
namespace MP
open PySem PySem.Spec PyProof.Rows L2 MP.SI
/-! ## list(d), sorted(d) -/
def keysD (ds : List (D × D)) : List D := ds.map (·.1)
theorem RpK.keysR {K : MpK} {F : Hp} : ∀ {kvs : List (Key × V)} {ds : List (D × D)}, RpK K F kvs ds → (∀ kv ∈ ds, ∀ x, kv.1 = .str x → sOk x) → RpA K F (kvs.map fun kv => kV kv.1) (keysD ds)
  | _, _, .nil, _ => .nil
  | _, _, @RpK.cons _ _ k v vs d ds h r, hs => by
    refine .cons ?_ (r.keysR fun kv hk => hs kv (List.mem_cons_of_mem _ hk))
    cases k with
    | inl i => exact .int i
    | inr x => exact .str x (hs _ List.mem_cons_self x rfl)
theorem kV_rp {K : MpK} {F : Hp} : ∀ {ks : List Key}, (∀ x : Str, .inr x ∈ ks → sOk x) → RpA K F (ks.map kV) (ks.map keyD)
  | [], _ => .nil
  | k :: ks, h => by
    refine .cons ?_ (kV_rp fun x hx => h x (List.mem_cons_of_mem _ hx))
    cases k with
    | inl i => exact .int i
    | inr x => exact .str x (h x List.mem_cons_self)
theorem RpT.keysR {K : MpK} {F : Hp} : ∀ {xs : List (List Key × Addr × Value)} {ds : List (D × D)}, RpT K F xs ds → RpA K F ((xs.map fun x => x.2.1).map V.ref) (keysD ds)
  | _, _, .nil => .nil
  | _, _, @RpT.cons _ _ k b u v vs d ds h1 h2 h3 h4 h r => .cons (.tup h1 (by rw [List.length_map]; exact h2) (kV_rp h3)) r.keysR
def bListT : List D → Option D
  | [.dict ds] => if ds.isEmpty then none else if tupKeys ds then some (.list (keysD ds)) else none
  | _ => none
def bSortT : List D → Option D
  | [.dict ds] => if ds.isEmpty then none else if tupKeys ds && srtOk (keysD ds) then some (.list (srt (keysD ds))) else none
  | _ => none
theorem RpK.notTup {K : MpK} {F : Hp} {kvs : List (Key × V)} {ds : List (D × D)} (r : RpK K F kvs ds) (n : ds.isEmpty = false) : tupKeys ds = false := by
  cases r with
  | nil => cases n
  | @cons k _ _ _ _ _ _ => cases k <;> rfl
section
variable {X : Cx}
theorem cas_listT (hc : X.calm = true) : CaS X (.type "list") bListT := by
  refine ⟨_, call_list_td hc, fun c W F H xs ds d Q st r e q => ?_⟩
  match ds, e with
  | [.dict ds], e =>
    have ro := r.one; clear r; obtain ⟨v, rfl, r⟩ := ro
    obtain ⟨a1, rfl, hh⟩ := r.dict st.sub
    have e : (if ds.isEmpty then none else if tupKeys ds then some (PyData.list (keysD ds)) else none) = some d := e
    cases e1 : ds.isEmpty with
    | true => rw [e1] at e; cases e
    | false =>
      rw [e1, if_neg (by decide)] at e
      obtain ⟨ht, rfl⟩ := if_some e
      rcases hh with ⟨vs, h1, r1⟩ | ⟨ks, h1, hn, hl, r1⟩
      · rw [r1.notTup e1] at ht; cases ht
      · exact ⟨a1, ks, rfl, h1, hl, fun p hp => q _ _ _ (st.new hp) (st.keepc hp) (fr_new st hp (by rw [List.length_map, List.length_map]; exact hl) r1.keysR)⟩
theorem cas_sortT (hc : X.calm = true) (hu : X.A.units + 65 < cLine) : CaS X (.builtin "sorted") bSortT := by
  refine ⟨_, cr_sort_td hc hu, fun c W F H xs ds d Q st r e q => ?_⟩
  match ds, e with
  | [.dict ds], e =>
    have ro := r.one; clear r; obtain ⟨v, rfl, r⟩ := ro
    obtain ⟨a1, rfl, hh⟩ := r.dict st.sub
    have e : (if ds.isEmpty then none else if tupKeys ds && srtOk (keysD ds) then some (PyData.list (srt (keysD ds))) else none) = some d := e
    cases e1 : ds.isEmpty with
    | true => rw [e1] at e; cases e
    | false =>
      rw [e1, if_neg (by decide)] at e
      obtain ⟨ht, rfl⟩ := if_some e
      obtain ⟨ht, hk⟩ := Bool.and_eq_true_iff.mp ht
      rcases hh with ⟨vs, h1, r1⟩ | ⟨ks, h1, hn, hl, r1⟩
      · rw [r1.notTup e1] at ht; cases ht
      · obtain ⟨hal, hsk, hdep⟩ := srtOk_alike hk
        have rk := r1.keysR
        have hl2 : ((ks.map fun x => x.2.1).map V.ref).length ≤ sizeLine := by rw [List.length_map, List.length_map]; exact hl
        refine ⟨a1, ks, keysD ds, rfl, h1, hl, RpA.dp st.sub rk (canLayAll_of fun d hd => (hdep d hd).1), hk, fun p hp => q _ _ _ (st.new hp) (st.keepc hp) (fr_new st hp ?_ ?_)⟩
        · rw [List.length_map, (List.mergeSort_perm _ _).length_eq, List.length_zip]
          exact Nat.le_trans (Nat.min_le_left _ _) hl2
        · generalize (ks.map fun x => x.2.1).map V.ref = v1 at rk
          have key : RpA X.kk F (((v1.zip (keysD ds)).mergeSort (PySem.W.dataLe false fun b => b.2)).map (·.1)) (((v1.zip (keysD ds)).mergeSort (PySem.W.dataLe false fun b => b.2)).map (·.2)) :=
            RpA.zipm fun b hb => rk.zip_mem b ((List.mergeSort_perm _ _).mem_iff.mp hb)
          have e3 : ((v1.zip (keysD ds)).mergeSort (PySem.W.dataLe false fun b => b.2)).map (·.2) = srt (keysD ds) := by
            have := PySem.W.sort_maps (r := PySem.W.dataLe false fun b : V × D => b.2) (s := PySem.W.dataLe false id) (fun b : V × D => b.2) (l := v1.zip (keysD ds)) (fun a _ b _ => rfl)
            rw [this, List.map_snd_zip (by rw [rk.length]; exact Nat.le_refl _)]
          rw [e3] at key
          exact key
/-- list and sorted of anything that is served -/
def bList4 : List D → Option D
  | [.dict ds] => bListT [.dict ds]
  | ds => bList ds
def bSorted4 : List D → Option D
  | [.dict ds] => if ds.isEmpty then bSortedD2 [.dict ds] else if tupKeys ds then bSortT [.dict ds] else bSortedD2 [.dict ds]
  | ds => bSorted3 ds
theorem cas_list4 (hc : X.calm = true) : CaS X (.type "list") bList4 := CaS.or2 (cas_listT hc) cas_list fun ds d e => by
  unfold bList4 at e
  split at e
  · exact .inl e
  · exact .inr e
theorem cas_sorted4 (hc : X.calm = true) (hu : X.A.units + 65 < cLine) : CaS X (.builtin "sorted") bSorted4 :=
  CaS.or2 (h := fun ds => match ds with | [.dict ds] => bSortedD2 [.dict ds] | ds => bSorted3 ds) (cas_sortT hc hu) (CaS.or2 (cas_sortedD hc) (cas_sorted3 hu) fun ds d e => by
    split at e
    · exact .inl e
    · exact .inr e) fun ds d e => by
  unfold bSorted4 at e
  split at e
  · rename_i l
    split at e
    · exact .inr e
    · split at e
      · exact .inl e
      · exact .inr e
  · rename_i h
    exact .inr e
end
/-! ## sorted(set(rows)) -/
def natOf : D → Option Nat
  | .int i => if 0 ≤ i then some i.toNat else none
  | _ => none
def natsOf : List D → Option (List Nat)
  | [] => some []
  | d :: r => match natOf d, natsOf r with
    | some n, some l => some (n :: l)
    | _, _ => none
def rowOf : D → Option (List Nat)
  | .tuple ds => natsOf ds
  | _ => none
def rowsOf : List D → Option (List (List Nat))
  | [] => some []
  | d :: r => match rowOf d, rowsOf r with
    | some n, some l => some (n :: l)
    | _, _ => none
theorem natsOf_eq : ∀ {ds : List D} {l : List Nat}, natsOf ds = some l → ds = l.map fun p : Nat => .int p
  | [], l, h => by cases h; rfl
  | d :: r, l, h => by
    rw [natsOf] at h
    cases h1 : natOf d with
    | none => rw [h1] at h; cases h
    | some n =>
      cases h2 : natsOf r with
      | none => rw [h1, h2] at h; cases h
      | some m =>
        rw [h1, h2] at h
        cases h
        rw [List.map_cons, ← natsOf_eq h2]
        congr 1
        cases d with
        | int i =>
          have h1 : (if 0 ≤ i then some i.toNat else none) = some n := h1
          split at h1
          · cases h1
            rw [Int.toNat_of_nonneg (by assumption)]
          · cases h1
        | _ => cases h1
theorem natsOf_map : ∀ l : List Nat, natsOf (l.map fun p : Nat => .int p) = some l
  | [] => rfl
  | n :: l => by
    rw [List.map_cons, natsOf, natsOf_map l]
    have : natOf (.int (n : Int)) = some n := by
      show (if (0 : Int) ≤ (n : Int) then some (n : Int).toNat else none) = _
      rw [if_pos (Int.natCast_nonneg n)]
      rfl
    rw [this]
theorem rowsOf_eq : ∀ {ds : List D} {l : List (List Nat)}, rowsOf ds = some l → ds = l.map NT
  | [], l, h => by cases h; rfl
  | d :: r, l, h => by
    rw [rowsOf] at h
    cases h1 : rowOf d with
    | none => rw [h1] at h; cases h
    | some n =>
      cases h2 : rowsOf r with
      | none => rw [h1, h2] at h; cases h
      | some m =>
        rw [h1, h2] at h
        cases h
        rw [List.map_cons, ← rowsOf_eq h2]
        congr 1
        cases d with
        | tuple ds =>
          have h1 : natsOf ds = some n := h1
          rw [natsOf_eq h1]
        | _ => cases h1
theorem rowsOf_map : ∀ l : List (List Nat), rowsOf (l.map NT) = some l
  | [] => rfl
  | n :: l => by
    rw [List.map_cons, rowsOf, rowsOf_map l]
    have : rowOf (NT n) = some n := natsOf_map n
    rw [this]
/-- without doubles -/
def ddL : List (List Nat) → List (List Nat)
  | [] => []
  | x :: l => if x ∈ l then ddL l else x :: ddL l
theorem ddL_mem {a : List Nat} : ∀ {l : List (List Nat)}, a ∈ ddL l ↔ a ∈ l
  | [] => Iff.rfl
  | x :: l => by
    unfold ddL
    split
    · rename_i h
      rw [ddL_mem, List.mem_cons]
      exact ⟨.inr, fun q => q.elim (fun z => z ▸ h) id⟩
    · rw [List.mem_cons, List.mem_cons, ddL_mem]
theorem ddL_nodup : ∀ l : List (List Nat), (ddL l).Nodup
  | [] => List.nodup_nil
  | x :: l => by
    unfold ddL
    split
    · exact ddL_nodup l
    · rename_i h
      exact List.nodup_cons.mpr ⟨fun z => h (ddL_mem.mp z), ddL_nodup l⟩
def srtU (l : List (List Nat)) : List (List Nat) := (ddL l).mergeSort leN
theorem srtU_mem {a : List Nat} {l : List (List Nat)} : a ∈ srtU l ↔ a ∈ l := by
  unfold srtU
  rw [(List.mergeSort_perm _ _).mem_iff, ddL_mem]
theorem srtU_rise (l : List (List Nat)) : (srtU l).Pairwise LtN := by
  have p : (srtU l).Pairwise (fun a b => leN a b = true) := List.pairwise_mergeSort (le := leN) (fun a b c h1 h2 => by
    unfold leN at *
    cases h : ltN c a with
    | false => rfl
    | true =>
      exfalso
      cases h3 : ltN b a with
      | true => rw [h3] at h1; cases h1
      | false =>
        cases h4 : ltN c b with
        | true => rw [h4] at h2; cases h2
        | false =>
          cases h5 : ltN a b with
          | true => have := ltN_trans h h5; rw [h4] at this; cases this
          | false => rw [ltN_tri h5 h3, h4] at h; cases h) (fun a b => by
    unfold leN
    cases h : ltN b a with
    | false => rfl
    | true => rw [ltN_asym h]; rfl) _
  have nd : (srtU l).Nodup := ((List.mergeSort_perm _ _).nodup_iff).mpr (ddL_nodup l)
  have both := List.Pairwise.and p nd
  refine both.imp fun {a b} ⟨h1, h2⟩ => ?_
  show ltN a b = true
  cases h : ltN a b with
  | true => rfl
  | false =>
    unfold leN at h1
    cases h3 : ltN b a with
    | true => rw [h3] at h1; cases h1
    | false => exact absurd (ltN_tri h h3) h2
abbrev iL (a : List Nat) : List Int := a.map fun n : Nat => (n : Int)
theorem code_ltN {B : Int} : ∀ {a b : List Nat}, a.length = b.length → TS.Bd B (iL a) → TS.Bd B (iL b) → ltN a b = true → TS.code B (iL a) < TS.code B (iL b)
  | [], [], _, _, _, h => by cases h
  | x :: a, y :: b, hl, h1, h2, h => by
    rcases (ltN_cons x y a b).mp h with h' | ⟨e, h'⟩
    · exact TS.code_lt (by simpa using hl) h1.tail h2.tail (show (x : Int) < (y : Int) by omega)
    · subst e
      exact (TS.code_same (by simpa using hl)).mpr (code_ltN (by simpa using hl) h1.tail h2.tail h')
def rowsOk (l : List (List Nat)) : Bool := decide (l.length < 64) && (decide (1 ≤ (l.headD [0]).length) && l.all fun r => decide (r.length = (l.headD [0]).length) && r.all fun n => decide (n < 64))
def bSS : List D → Option D
  | [.list ds] => match rowsOf ds with
    | some l => if rowsOk l then some (.list ((srtU l).map NT)) else none
    | none => none
  | _ => none
theorem iL_inj : ∀ {a b : List Nat}, iL a = iL b → a = b
  | [], [], _ => rfl
  | [], _ :: _, h => by cases h
  | _ :: _, [], h => by cases h
  | x :: a, y :: b, h => by
    rw [iL, iL, List.map_cons, List.map_cons] at h
    injection h with h1 h2
    rw [iL_inj h2, Int.ofNat.inj h1]
/-- the places of rows -/
theorem rows_at {K : MpK} {F : Hp} : ∀ {l : List (List Nat)} {vs : List V}, RpA K F vs (l.map NT) → ∃ ks : List (Addr × List Nat), vs = ks.map (fun p => V.ref p.1) ∧ ks.map (·.2) = l ∧ ∀ p ∈ ks, SqT K F p.1 ((iL p.2).map V.int) ∧ Rp K F (.ref p.1) (NT p.2)
  | [], vs, r => by
    have r' : RpA K F vs [] := r
    cases r'
    exact ⟨[], rfl, rfl, fun p hp => by cases hp⟩
  | a :: l, vs, r => by
    have r' : RpA K F vs (NT a :: l.map NT) := r
    cases r' with
    | cons h r2 =>
      obtain ⟨ks, rfl, e2, h3⟩ := rows_at r2
      obtain ⟨b, us, rfl, h4, h5, h6⟩ := h.tupI
      have e6 : us = (iL a).map V.int := by
        have h6 : RpA K F us ((iL a).map PyData.int) := by rw [iL, List.map_map]; exact h6
        exact h6.intz
      subst e6
      refine ⟨(b, a) :: ks, rfl, by rw [List.map_cons, e2], fun p hp => ?_⟩
      rcases List.mem_cons.mp hp with z | z
      · subst z; exact ⟨h4, h⟩
      · exact h3 p z
theorem rpa_refs {K : MpK} {F : Hp} : ∀ {ks : List (Addr × List Nat)}, (∀ p ∈ ks, Rp K F (.ref p.1) (NT p.2)) → RpA K F (ks.map fun p => V.ref p.1) ((ks.map (·.2)).map NT)
  | [], _ => .nil
  | p :: ks, h => .cons (h p List.mem_cons_self) (rpa_refs fun q hq => h q (List.mem_cons_of_mem _ hq))
section
variable {X : Cx} {z : Z} {O : List Nat}
theorem q_sortSet {e : Expr} {f : Ev} {p p2 pos pos2 : Pos} (hc : X.calm = true) (hu : X.A.units + 65 < cLine) (h : QE X z O e f) (hm : X.mg "sorted" = none) (hm2 : X.mg "set" = none) (hg : Gl X "sorted" := by rfl) (hg2 : Gl X "set" := by rfl)
    (he2 : starEach [e] X.env = (false, eval e X.env) :: starEach [] X.env := by rfl) (hpl2 : (backTo pos2 (starEach [] X.env)).any (·.1) = false := by rfl)
    (he : starEach [.Call (.Name "set" p2) [e] [] pos2] X.env = (false, eval (.Call (.Name "set" p2) [e] [] pos2) X.env) :: starEach [] X.env := by rfl) (hpl : (backTo pos (starEach [] X.env)).any (·.1) = false := by rfl) :
    QF X z O (.Call (.Name "sorted" p) [.Call (.Name "set" p2) [e] [] pos2] [] pos) (eCa bSS (eCons f eNil)) := by
  refine ⟨PE.to (pe_callB (cr_sortedT hc) hg hm (by decide +kernel) (pa_cons (pe_callTy (cr_setOfT hc (by omega)) hg2 hm2 (by decide +kernel) (pa_cons h.pe pa_nil he2) (by decide) (by decide) he2 hpl2) pa_nil he) (by decide) (by decide) he hpl) ?_⟩
  rintro σ H Q ⟨c, W, A, env, cp, F, p, q⟩
  refine ⟨c, W, A, env, cp, F, p, ?_⟩
  have e0 : eCa bSS (eCons f eNil) env cp = (f env cp).bind fun d cp1 => match bSS [d] with | some y => .ok y cp1 | none => .bad := by
    unfold eCa eCons eNil
    cases f env cp <;> rfl
  rw [e0] at q
  refine (Aft.bind q).imp fun d cp1 F1 H1 s1 e1 q1 v r => ?_
  cases eb : bSS [d] with
  | none => simp only [eb] at q1; exact q1.elim
  | some y =>
    simp only [eb] at q1
    have st := p.sit.step s1 e1
    cases d with
    | list ds =>
      have eb : (match rowsOf ds with
        | some l => if rowsOk l then some (PyData.list ((srtU l).map NT)) else none
        | none => none) = some y := eb
      cases er : rowsOf ds with
      | none => rw [er] at eb; cases eb
      | some l =>
        rw [er] at eb
        obtain ⟨hok, rfl⟩ := if_some eb
        obtain rfl := rowsOf_eq er
        unfold rowsOk at hok
        rw [Bool.and_eq_true, Bool.and_eq_true, decide_eq_true_iff, decide_eq_true_iff] at hok
        obtain ⟨k1, k2, k3⟩ := hok
        have k3' : ∀ a ∈ l, a.length = (l.headD [0]).length ∧ TS.Bd 64 (iL a) := fun a ha => by
          have := List.all_eq_true.mp k3 a ha
          rw [Bool.and_eq_true, decide_eq_true_iff] at this
          refine ⟨this.1, fun m hm => ?_⟩
          obtain ⟨n, hn, rfl⟩ := List.mem_map.mp hm
          have := List.all_eq_true.mp this.2 n hn
          rw [decide_eq_true_iff] at this
          omega
        cases r with
        | @lst a vs _ h1 l1 r1 =>
          obtain ⟨ks, rfl, hks, hkr⟩ := rows_at r1
          refine ⟨a, ks.map fun p => (p.1, iL p.2), rfl, SqL.of (by rw [List.map_map]; exact st.sub _ _ h1), fun p hp => ?_, by rw [List.length_map, ← List.length_map (f := (·.2)) (as := ks), hks]; exact k1, fun b L hb hs ha => ?_⟩
          · obtain ⟨q, hq, rfl⟩ := List.mem_map.mp hp
            exact SqT_same st.sub (hkr q hq).1
          · have sN : Stp c W F1 H1 F1 (upd H1 b (SetTO X.prog X.w b L)) := st.new hb
            have st2 := st.step sN ((st.keepc hb).trans e1)
            -- the members
            obtain ⟨M, rfl, hM⟩ : ∃ M : List (Addr × List Nat), L = M.map (fun p => (p.1, iL p.2)) ∧ ∀ p ∈ M, p ∈ ks := by
              clear ha sN st2
              induction L with
              | nil => exact ⟨[], rfl, fun p hp => by cases hp⟩
              | cons x L ih =>
                obtain ⟨M, rfl, hM⟩ := ih fun p hp => hs p (List.mem_cons_of_mem _ hp)
                obtain ⟨y, hy, e⟩ := List.mem_map.mp (hs x List.mem_cons_self)
                exact ⟨y :: M, by rw [List.map_cons, e], fun p hp => (List.mem_cons.mp hp).elim (fun z => z ▸ hy) (hM p)⟩
            refine ⟨b, _, (l.headD [0]).length, 64, rfl, upd_same, fun p hp => ?_, k2, fun p hp => ?_, fun L' p' pm nd hlen pw hp' => ?_⟩
            · obtain ⟨q, hq, rfl⟩ := List.mem_map.mp hp
              exact SqT_same st2.sub (hkr q (hM q hq)).1
            · obtain ⟨q, hq, rfl⟩ := List.mem_map.mp hp
              have : q.2 ∈ l := by rw [← hks]; exact List.mem_map.mpr ⟨q, hM q hq, rfl⟩
              refine ⟨?_, (k3' _ this).2⟩
              rw [List.length_map]
              exact (k3' _ this).1
            · obtain ⟨M', rfl, hM'⟩ : ∃ M' : List (Addr × List Nat), L' = M'.map (fun p => (p.1, iL p.2)) ∧ ∀ p ∈ M', p ∈ ks := by
                have hs' : ∀ x ∈ L', ∃ y ∈ ks, (y.1, iL y.2) = x := fun x hx => by
                  obtain ⟨y, hy, e⟩ := List.mem_map.mp (pm.mem_iff.mp hx)
                  exact ⟨y, hM y hy, e⟩
                clear pm nd hlen pw
                induction L' with
                | nil => exact ⟨[], rfl, fun p hp => by cases hp⟩
                | cons x L' ih =>
                  obtain ⟨M', rfl, hM'⟩ := ih fun p hp => hs' p (List.mem_cons_of_mem _ hp)
                  obtain ⟨y, hy, e⟩ := hs' x List.mem_cons_self
                  exact ⟨y :: M', by rw [List.map_cons, e], fun p hp => (List.mem_cons.mp hp).elim (fun z => z ▸ hy) (hM' p)⟩
              have sub2 : ∀ p ∈ M', p.2 ∈ l := fun p hp => by rw [← hks]; exact List.mem_map.mpr ⟨p, hM' p hp, rfl⟩
              have nd' : (M'.map (·.2)).Nodup := by
                rw [List.map_map] at nd
                have : ((M'.map (·.2)).map iL).Nodup := by rw [List.map_map]; exact nd
                exact (List.pairwise_map.mp this).imp fun {a b} h z => h (by rw [z])
              have rise : (M'.map (·.2)).Pairwise LtN := by
                have pw' : (M'.map (·.2)).Pairwise (fun q r => TS.code 64 (iL q) ≤ TS.code 64 (iL r)) := by
                  rw [List.pairwise_map] at pw ⊢
                  exact pw
                have both := List.Pairwise.and pw' nd'
                refine List.Pairwise.imp_of_mem (fun {a b} ha hb ⟨h1, h2⟩ => ?_) both
                obtain ⟨pa, hpa, rfl⟩ := List.mem_map.mp ha
                obtain ⟨pb, hpb, rfl⟩ := List.mem_map.mp hb
                have ka := k3' _ (sub2 pa hpa)
                have kb := k3' _ (sub2 pb hpb)
                show ltN pa.2 pb.2 = true
                cases hlt : ltN pa.2 pb.2 with
                | true => rfl
                | false =>
                  cases hgt : ltN pb.2 pa.2 with
                  | true => have := code_ltN (kb.1.trans ka.1.symm) kb.2 ka.2 hgt; omega
                  | false => exact absurd (ltN_tri hlt hgt) h2
              have eqL : M'.map (·.2) = srtU l := by
                refine rise_one rise (srtU_rise l) ((List.perm_ext_iff_of_nodup nd' ((srtU_rise l).imp fun {a b} h z => ?_)).mpr fun x => ⟨fun hx => ?_, fun hx => ?_⟩)
                · have h : ltN a b = true := h
                  rw [z, ltN_irrefl] at h
                  cases h
                · obtain ⟨p, hp, rfl⟩ := List.mem_map.mp hx
                  exact srtU_mem.mpr (sub2 p hp)
                · have hx := srtU_mem.mp hx
                  rw [← hks] at hx
                  obtain ⟨p, hp, rfl⟩ := List.mem_map.mp hx
                  obtain ⟨q, hq, e⟩ := List.mem_map.mp (ha (p.1, iL p.2) (List.mem_map.mpr ⟨p, hp, rfl⟩))
                  have hq := pm.mem_iff.mpr hq
                  obtain ⟨q', hq', rfl⟩ := List.mem_map.mp hq
                  exact List.mem_map.mpr ⟨q', hq', iL_inj e⟩
              have hz : (M'.map (fun p : Addr × List Nat => V.ref p.1)).length ≤ sizeLine := by
                rw [List.length_map] at hlen ⊢
                rw [sizeLine_eq]; omega
              have rr := rpa_refs (K := X.kk) (F := F1) fun p hp => (hkr p (hM' p hp)).2
              rw [eqL] at rr
              rw [List.map_map]
              have sN2 := st2.new (o := .lst (M'.map fun p => V.ref p.1)) hp'
              exact q1 F1 _ (sN.trans sN2) ((st2.keepc hp').trans ((st.keepc hb).trans e1)) _ (((fr_new st2 hp' hz rr).back sN ((st.keepc hb).trans e1)).back s1 e1)
    | _ => cases eb
end
end MP
namespace MP.SI
open PySem MP MP.SI
local macro_rules | `(tactic| walk_at "w") => `(tactic| first
  | with_reducible refine w_seq ?_
  | with_reducible refine w_set ?_
  | with_reducible refine w_ret ?_
  | with_reducible refine w_cons ?_
  | with_reducible refine w_nil ?_
  | with_reducible refine w_c ?_
  | ((with_reducible refine' w_nm ?hnm ?_); (case hnm => exact rfl))
  | with_reducible refine w_bin ?_
  | with_reducible refine w_b ?_
  | with_reducible refine w_not ?_
  | with_reducible refine w_and ?_
  | with_reducible refine w_or ?_
  | with_reducible refine w_if ?_
  | with_reducible refine w_sif ?_
  | with_reducible refine w_chn ?_
  | with_reducible refine w_call ?_
  | with_reducible refine w_ca ?_
  | with_reducible refine w_tup ?_
  | with_reducible refine w_lst ?_
  | with_reducible refine w_isi ?_
  | with_reducible refine w_drop ?_
  | with_reducible refine w_snil ?_
  | with_reducible refine w_par ?_
  | with_reducible refine w_asg ?_
  | with_reducible refine w_for ?_
  | with_reducible refine w_lc ?_
  | with_reducible refine w_it ?_
  | with_reducible refine w_zip ?_
  | with_reducible refine w_enum ?_
  | with_reducible refine w_sl2 ?_
  | with_reducible refine w_eoN ?_
  | with_reducible refine w_eoS ?_
  | with_reducible refine w_me ?_
  | with_reducible refine w_rev ?_
  | ((with_reducible refine' w_app ?hap ?_); (case hap => exact rfl))
  | ((with_reducible refine' w_augI ?hap ?_); (case hap => exact rfl))
  | with_reducible refine w_rg1 ?_
  | with_reducible refine w_rg2 ?_
  | with_reducible refine w_scup ?_
  | with_reducible refine w_cup ?_
  | with_reducible refine w_neg ?_
  | with_reducible refine w_mean ?_
  | with_reducible refine ⟨_, dLt_ii, ?_⟩
  | with_reducible refine ⟨_, dGt_ii, ?_⟩
  | with_reducible refine ⟨_, dLe_ii, ?_⟩
  | with_reducible refine ⟨_, dGe_ii, ?_⟩
  | with_reducible refine ⟨_, dEq_ii, ?_⟩
  | with_reducible refine ⟨_, dNe_ii, ?_⟩
  | with_reducible refine ⟨_, dLe_ii, fun _ => ?_, fun _ => ?_⟩
  | with_reducible refine ⟨_, dLt_ii, fun _ => ?_, fun _ => ?_⟩
  | with_reducible refine ⟨_, dAdd_ii, ?_⟩
  | with_reducible refine ⟨_, dSub_ii, ?_⟩
  | with_reducible refine ⟨_, isi_int_int, ?_⟩
  | with_reducible refine ⟨_, isi_int_bool, ?_⟩
  | with_reducible refine ⟨_, isi_int_str, ?_⟩
  | with_reducible refine ⟨_, isi_int_tuple, ?_⟩
  | with_reducible refine ⟨_, isi_tuple_int, ?_⟩
  | with_reducible refine ⟨_, isi_tuple_bool, ?_⟩
  | with_reducible refine ⟨_, isi_tuple_str, ?_⟩
  | with_reducible refine ⟨_, isi_tuple_tuple, ?_⟩
  | with_reducible refine ⟨_, isi_str_int, ?_⟩
  | with_reducible refine ⟨_, isi_str_bool, ?_⟩
  | with_reducible refine ⟨_, isi_str_str, ?_⟩
  | with_reducible refine ⟨_, isi_str_tuple, ?_⟩
  | with_reducible refine ⟨_, isi_bool_int, ?_⟩
  | with_reducible refine ⟨_, isi_bool_bool, ?_⟩
  | with_reducible refine ⟨_, isi_bool_str, ?_⟩
  | with_reducible refine ⟨_, isi_bool_tuple, ?_⟩
  | with_reducible refine ⟨_, isi_none_int, ?_⟩
  | with_reducible refine ⟨_, isi_none_bool, ?_⟩
  | with_reducible refine ⟨_, isi_none_str, ?_⟩
  | with_reducible refine ⟨_, isi_none_tuple, ?_⟩
  | with_reducible refine ⟨_, isi_list_int, ?_⟩
  | with_reducible refine ⟨_, isi_list_bool, ?_⟩
  | with_reducible refine ⟨_, isi_list_str, ?_⟩
  | with_reducible refine ⟨_, isi_list_tuple, ?_⟩
  | with_reducible refine ⟨true, rfl, fun _ => ?_, fun h => absurd h (by decide)⟩
  | with_reducible refine ⟨false, rfl, fun h => absurd h (by decide), fun _ => ?_⟩
  | (fail_if_success with_reducible refine mul_shape ?_); (fail_if_success with_reducible refine mul2_shape ?_); with_reducible refine ⟨_, rfl, fun hb => ?_, fun hb => ?_⟩
  | (fail_if_success with_reducible refine mul_shape ?_); (fail_if_success with_reducible refine mul2_shape ?_); with_reducible refine ⟨_, rfl, ?_⟩
  | with_reducible refine ⟨fun hb => ?_, fun hb => ?_⟩
  | with_reducible exact ⟨rfl, rfl⟩
  | with_reducible refine ⟨(rfl : isLst _ = true), ?_⟩)
/-! rows in dicts, rows sorted -/
theorem srt_NT0 {l : List (List Nat)} (h : ∀ a ∈ l, a ≠ []) : srtOk (l.map NT) = true ∧ srt (l.map NT) = (l.mergeSort leN).map NT := by
  refine ⟨?_, ?_⟩
  · unfold srtOk
    rw [Bool.and_eq_true, Bool.and_eq_true]
    refine ⟨⟨List.all_eq_true.mpr fun d hd => ?_, List.all_eq_true.mpr fun d hd => List.all_eq_true.mpr fun e he => ?_⟩, Bool.or_eq_true_iff.mpr (.inl (List.all_eq_true.mpr fun d hd => ?_))⟩
    · obtain ⟨x, hx, rfl⟩ := List.mem_map.mp hd
      rw [(lay_NT x).1, (lay_NT x).2]
      rfl
    · obtain ⟨x, hx, rfl⟩ := List.mem_map.mp hd
      obtain ⟨y, hy, rfl⟩ := List.mem_map.mp he
      exact alike_NT x y
    · obtain ⟨x, hx, rfl⟩ := List.mem_map.mp hd
      cases x with
      | nil => exact absurd rfl (h _ hx)
      | cons a as => rfl
  · refine (List.map_mergeSort (r := leN) (s := PySem.W.dataLe false id) (f := NT) fun a _ b _ => ?_).symm
    rw [PySem.W.dataLe_eq]
    show leN a b = !(PySem.W.dataLt (NT b) (NT a))
    rw [ltN_data]
    rfl
theorem sorted3_NT0 {l : List (List Nat)} (h : ∀ a ∈ l, a ≠ []) : bSorted3 [.tuple (l.map NT)] = some (.list ((l.mergeSort leN).map NT)) := by
  obtain ⟨h1, h2⟩ := srt_NT0 h
  show (if srtOk (l.map NT) = true then some (PyData.list (srt (l.map NT))) else none) = _
  rw [if_pos h1, h2]
theorem rise_nodup {l : List (List Nat)} (h : l.Pairwise LtN) : l.Nodup := h.imp fun {a b} q z => by
  have q : ltN a b = true := q
  rw [z, ltN_irrefl] at q
  cases q
/-- what is sorted is a rising list just if it holds the same -/
theorem sort_iff {l t : List (List Nat)} (h : t.Pairwise LtN) : l.mergeSort leN = t ↔ l.Perm t := by
  refine ⟨fun e => e ▸ (List.mergeSort_perm l leN).symm, fun p => ?_⟩
  have nd : l.Nodup := p.nodup_iff.mpr (rise_nodup h)
  have e : ddL l = l := by
    have : ∀ {l : List (List Nat)}, l.Nodup → ddL l = l := by
      intro l
      induction l with
      | nil => intro _; rfl
      | cons x l ih =>
        intro nd
        obtain ⟨h1, h2⟩ := List.nodup_cons.mp nd
        unfold ddL
        rw [if_neg h1, ih h2]
    exact this nd
  have r := srtU_rise l
  unfold srtU at r
  rw [e] at r
  exact rise_one r h ((List.mergeSort_perm l leN).trans p)
/-- two sorted lists without doubles of the same things -/
theorem srtU_one {l t : List (List Nat)} (h : t.Pairwise LtN) (m : ∀ x, x ∈ t ↔ x ∈ l) : t = srtU l :=
  rise_one h (srtU_rise l) ((List.perm_ext_iff_of_nodup (rise_nodup h) (rise_nodup (srtU_rise l))).mpr fun x => (m x).trans srtU_mem.symm)
theorem srtU_congr {l t : List (List Nat)} (m : ∀ x, x ∈ t ↔ x ∈ l) : srtU t = srtU l := srtU_one (srtU_rise t) fun x => srtU_mem.trans (m x)
theorem bSS_NT {l : List (List Nat)} (h : rowsOk l = true) : bSS [.list (l.map NT)] = some (.list ((srtU l).map NT)) := by
  show (match rowsOf (l.map NT) with
    | some l => if rowsOk l then some (PyData.list ((srtU l).map NT)) else none
    | none => none) = _
  rw [rowsOf_map]
  exact if_pos h
/-- a dict whose keys are rows -/
abbrev kvT (l : List (List Nat)) : List (D × D) := l.map fun r => (NT r, .bool true)
theorem keyOf_NT (r : List Nat) : keyOf (NT r) = none := rfl
theorem keysOf_nats : ∀ r : List Nat, keysOf (r.map fun p : Nat => .int p) = some (r.map fun p : Nat => (.inl (p : Int) : L2.Key))
  | [] => rfl
  | n :: r => by
    rw [List.map_cons, keysOf, keysOf_nats r]
    rfl
theorem tkOf_NT (r : List Nat) : tkOf (NT r) = some (r.map fun p : Nat => (.inl (p : Int) : L2.Key)) := keysOf_nats r
theorem tk_inj : ∀ {a b : List Nat}, (a.map fun p : Nat => (.inl (p : Int) : L2.Key)) = b.map (fun p : Nat => (.inl (p : Int) : L2.Key)) → a = b
  | [], [], _ => rfl
  | [], _ :: _, h => by cases h
  | _ :: _, [], h => by cases h
  | x :: a, y :: b, h => by
    rw [List.map_cons, List.map_cons] at h
    injection h with h1 h2
    injection h1 with h1
    rw [tk_inj h2, Int.ofNat.inj h1]
theorem isK_NT (a b : List Nat) : isK (NT a) (NT b) = decide (b = a) := by
  unfold isK
  rw [keyOf_NT, tkOf_NT]
  show decide (tkOf (NT b) = some _) = _
  rw [tkOf_NT]
  by_cases h : b = a
  · rw [h, decide_eq_true rfl, decide_eq_true rfl]
  · rw [decide_eq_false h, decide_eq_false fun z => h (tk_inj (Option.some.inj z))]
theorem has_NT (l : List (List Nat)) (a : List Nat) : hasK (kvT l) (NT a) = decide (a ∈ l) := by
  unfold hasK kvT
  induction l with
  | nil => rfl
  | cons x l ih =>
    rw [List.map_cons, List.any_cons, ih, isK_NT]
    by_cases h : x = a
    · subst h; simp
    · have h' : ¬ a = x := fun z => h z.symm
      simp [h, h']
theorem kind_NT (l : List (List Nat)) (a : List Nat) : kindOk (kvT l) (NT a) = true := by
  unfold kindOk
  rw [keyOf_NT, tkOf_NT]
  show tupKeys (kvT l) = true
  unfold tupKeys
  rw [List.all_map, List.all_eq_true]
  intro x _
  rfl
/-- a row more -/
def addL (l : List (List Nat)) (a : List Nat) : List (List Nat) := if a ∈ l then l else l ++ [a]
theorem addL_mem {l : List (List Nat)} {a x : List Nat} : x ∈ addL l a ↔ x ∈ l ∨ x = a := by
  unfold addL
  split
  · rename_i h
    exact ⟨.inl, fun q => q.elim id fun z => z ▸ h⟩
  · rw [List.mem_append, List.mem_singleton]
theorem addL_nodup {l : List (List Nat)} {a : List Nat} (h : l.Nodup) : (addL l a).Nodup := by
  unfold addL
  split
  · exact h
  · rename_i k
    rw [List.nodup_append]
    exact ⟨h, List.pairwise_singleton _ _, fun x hx y hy z => by
      rw [List.mem_singleton] at hy
      subst hy; subst z
      exact k hx⟩
theorem addL_len (l : List (List Nat)) (a : List Nat) : (addL l a).length ≤ l.length + 1 := by
  unfold addL
  split
  · omega
  · rw [List.length_append]; exact Nat.le_refl _
theorem put_NT (l : List (List Nat)) (a : List Nat) (h : l.length < 16777216) : dPut (.dict (kvT l)) (NT a) (.bool true) = some (.dict (kvT (addL l a))) := by
  show (if kindOk (kvT l) (NT a) && decide ((kvT l).length < 16777216) then some (PyData.dict (stoD (kvT l) (NT a) (.bool true))) else none) = _
  rw [kind_NT, decide_eq_true (by unfold kvT; rw [List.length_map]; exact h)]
  refine (if_pos rfl).trans ?_
  congr 2
  unfold stoD addL
  rw [has_NT]
  by_cases k : a ∈ l
  · rw [decide_eq_true k, if_pos rfl, if_pos k]
    unfold kvT
    rw [List.map_map]
    apply List.map_congr_left
    intro x _
    show (if isK (NT a) (NT x) then (NT x, PyData.bool true) else (NT x, PyData.bool true)) = _
    split <;> rfl
  · rw [decide_eq_false k, if_neg (by decide), if_neg k]
    unfold kvT
    rw [List.map_append]
    rfl
theorem sorted4_NT {l : List (List Nat)} (h : ∀ a ∈ l, a ≠ []) (nd : l.Nodup) : bSorted4 [.dict (kvT l)] = some (.list ((srtU l).map NT)) := by
  cases l with
  | nil =>
    have e : bSorted4 [.dict (kvT [])] = some (.list ((([] : List Str).mergeSort leT).map .str)) := rfl
    rw [e]
    unfold srtU ddL
    rw [List.mergeSort_nil, List.mergeSort_nil]
    rfl
  | cons x l =>
    show (if (kvT (x :: l)).isEmpty then bSortedD2 [.dict (kvT (x :: l))] else if tupKeys (kvT (x :: l)) then bSortT [.dict (kvT (x :: l))] else bSortedD2 [.dict (kvT (x :: l))]) = _
    have e1 : (kvT (x :: l)).isEmpty = false := rfl
    have e2 : tupKeys (kvT (x :: l)) = true := kind_NT (x :: l) []
    have e3 : keysD (kvT (x :: l)) = (x :: l).map NT := by
      unfold keysD kvT
      rw [List.map_map]
      rfl
    rw [e1, e2, if_neg (by decide), if_pos rfl]
    show (if (kvT (x :: l)).isEmpty then none else if tupKeys (kvT (x :: l)) && srtOk (keysD (kvT (x :: l))) then some (PyData.list (srt (keysD (kvT (x :: l))))) else none) = _
    rw [e1, e2, e3, if_neg (by decide)]
    obtain ⟨k1, ys, k2, k3, k4⟩ := srt_NT h nd
    rw [k1, k2]
    refine (if_pos rfl).trans ?_
    rw [srtU_one k4 fun x => k3.mem_iff]
theorem w_put {i : Nat} {fk fv : Ev} {env : MP.Env} {cp : Cup} {PO : Out → Cup → Prop} {x : D} (he : env[i]? = some (some x)) (hb : isBox x = true) (h : Wp (fv env cp) fun d c1 => Wp (fk env c1) fun k c2 => ∃ y, dPut x k d = some y ∧ PO (.nx (env.set i (some y))) c2) : Wp (sPut i fk fv env cp) PO := by
  unfold sPut
  rw [he]
  show Wp (if isBox x then _ else _) _
  rw [if_pos hb]
  refine w_bind (w_ex h fun d c1 q => w_bind (w_ex q fun k c2 ⟨y, e, q2⟩ => ?_))
  rw [e]
  exact ⟨q2⟩
/-! rows cut -/
theorem cut_to_NT (s : List Nat) (i : Nat) : PyData.tuple (cutL (s.map fun p : Nat => (.int p : D)) none (some (i : Int))) = NT (s.take i) := by
  rw [cut_to, ← List.map_take]
theorem cut_from_NT (s : List Nat) (i : Nat) : PyData.tuple (cutL (s.map fun p : Nat => (.int p : D)) (some (i : Int)) none) = NT (s.drop i) := by
  rw [cut_drop, ← List.map_drop]
theorem set_cut {s : List Nat} {i : Nat} (q : Nat) (h : i < s.length) : s.take i ++ [q] ++ s.drop (i + 1) = s.set i q := by
  rw [List.set_eq_take_append_cons_drop, if_pos h, List.append_assoc]
  rfl
theorem put1_NT {s : List Nat} (i q : Nat) (h : s.length ≤ 1000000) : dAdd (.tuple (cutL (s.map fun p : Nat => (.int p : D)) none (some (i : Int)))) (.tuple [.int q]) = some (NT (s.take i ++ [q])) := by
  rw [cut_to_NT]
  exact add_NT (s := s.take i) (t := [q]) (by rw [List.length_take]; show _ + 1 ≤ _; omega)
theorem put2_NT {s : List Nat} {i : Nat} (q : Nat) (h : s.length ≤ 1000000) (hi : i < s.length) : dAdd (NT (s.take i ++ [q])) (.tuple (cutL (s.map fun p : Nat => (.int p : D)) (some ((i : Int) + 1)) none)) = some (NT (s.set i q)) := by
  rw [show ((i : Int) + 1) = ((i + 1 : Nat) : Int) from rfl, cut_from_NT, ← set_cut _ hi]
  exact add_NT (by rw [List.length_append, List.length_take, List.length_drop]; show _ + 1 + _ ≤ _; omega)
theorem w_ext {i : Nat} {f : Ev} {env : MP.Env} {cp : Cup} {PO : Out → Cup → Prop} {ds : List D} (he : env[i]? = some (some (.list ds))) (h : Wp (f env cp) fun d c => ∃ es, d = .list es ∧ okLen (ds.length + es.length) = true ∧ PO (.nx (env.set i (some (.list (ds ++ es))))) c) : Wp (sExt i f env cp) PO := by
  unfold sExt
  rw [he]
  refine w_bind (w_ex h fun d c ⟨es, e, hl, q⟩ => ?_)
  subst e
  show Wp (if okLen (ds.length + es.length) then _ else _) _
  rw [if_pos hl]
  exact ⟨q⟩
theorem eqvAll_NTs : ∀ a b : List (List Nat), PyData.eqvAll (a.map NT) (b.map NT) = decide (a = b)
  | [], [] => rfl
  | [], _ :: _ => rfl
  | _ :: _, [] => rfl
  | x :: a, y :: b => by
    rw [List.map_cons, List.map_cons, PyData.eqvAll, eqv_NT, eqvAll_NTs a b]
    by_cases h1 : x = y
    · by_cases h2 : a = b
      · rw [decide_eq_true h1, decide_eq_true h2, decide_eq_true (by rw [h1, h2])]; rfl
      · rw [decide_eq_true h1, decide_eq_false h2, decide_eq_false (fun z => h2 (List.cons.inj z).2)]; rfl
    · rw [decide_eq_false h1, decide_eq_false (fun z => h1 (List.cons.inj z).1)]; rfl
theorem shp_NTL (l : List (List Nat)) : shp (.list (l.map NT)) = true := by
  have h := lay_NTT l
  have e1 : (PyData.list (l.map NT)).canLay0 = (NTT l).canLay0 := rfl
  have e2 : (PyData.list (l.map NT)).depth = (NTT l).depth := rfl
  unfold shp
  rw [e1, e2, h.1, Bool.true_and]
  exact decide_eq_true (by omega)
theorem dEq_NTL (a b : List (List Nat)) : dEq (.list (a.map NT)) (.list (b.map NT)) = some (.bool (decide (a = b))) := by
  unfold dEq
  rw [shp_NTL, shp_NTL]
  show some (PyData.bool (PyData.eqvAll (a.map NT) (b.map NT))) = _
  rw [eqvAll_NTs]
theorem dNe_NTL (a b : List (List Nat)) : dNe (.list (a.map NT)) (.list (b.map NT)) = some (.bool (!decide (a = b))) := by
  unfold dNe
  rw [shp_NTL, shp_NTL]
  show some (PyData.bool (!PyData.eqvAll (a.map NT) (b.map NT))) = _
  rw [eqvAll_NTs]
end MP.SI
namespace L_k14
open PySem MP MP.SI
/-! ### the mirror -/
def m_fits_frame : Mean := mean false 1
  (sRet (eAnd (eCall m_is_tuple_of (eCons (eNm 0) (eCons (eC (.int 2)) (eCons (eC (.int 2)) eNil)))) (eAnd (eCall m_fits_whole (eCons (eBin dIx (eNm 0) (eC (.int 0))) (eCons (eC (.int 1)) (eCons (eC (.int 4)) eNil)))) (eCall m_fits_whole (eCons (eBin dIx (eNm 0) (eC (.int 1))) (eCons (eC (.int 2)) (eCons (eC (.int 8)) eNil)))))))
def m_need_frame : Mean := mean false 1
  (sIf (eNot (eB (eCall m_fits_frame (eCons (eNm 0) eNil))))
    sNever
    sNil)
def m_fits_sign : Mean := mean false 3
  (sRet (eAnd (eCall m_is_tuple_of (eCons (eNm 1) (eCons (eBin dIx (eNm 0) (eC (.int 0))) (eCons (eBin dIx (eNm 0) (eC (.int 0))) eNil)))) (eCa bAll (eCons (eLc [2] (gNm 2) (eIt (eNm 1)) (eC (.bool true)) (eCall m_fits_whole (eCons (eNm 2) (eCons (eC (.int 0)) (eCons (eBin dSub (eBin dIx (eNm 0) (eC (.int 1))) (eC (.int 1))) eNil))))) eNil))))
def m_need_sign : Mean := mean false 2
  (sIf (eNot (eB (eCall m_fits_sign (eCons (eNm 0) (eCons (eNm 1) eNil)))))
    sNever
    sNil)
def m_step_between : Mean := mean false 4
  (sSeq (sSet 3 (eCa bAbs (eCons (eBin dSub (eNm 1) (eNm 2)) eNil)))
  (sRet (eCa bMin2 (eCons (eNm 3) (eCons (eBin dSub (eBin dIx (eNm 0) (eC (.int 1))) (eNm 3)) eNil)))))
def m_turns_in : Mean := mean false 5
  (sRet (eCa bSum (eCons (eLc [3, 4] (gTp (gsCons (gNm 3) (gsCons (gNm 4) gsNil))) (eZip (eNm 1) (eNm 2)) (eC (.bool true)) (eCall m_step_between (eCons (eNm 0) (eCons (eNm 3) (eCons (eNm 4) eNil))))) eNil)))
def m_turns_between : Mean := mean false 3
  (sSeq (sDrop (eCall m_need_frame (eCons (eNm 0) eNil)))
  (sSeq (sDrop (eCall m_need_sign (eCons (eNm 0) (eCons (eNm 1) eNil))))
  (sSeq (sDrop (eCall m_need_sign (eCons (eNm 0) (eCons (eNm 2) eNil))))
  (sRet (eCall m_turns_in (eCons (eNm 0) (eCons (eNm 1) (eCons (eNm 2) eNil))))))))
def m_law_roll : Mean := mean true 4
  (sSeq (sIf (eB (eBin dGt (eCup false) (eC (.int 0))))
    (sSeq (sSet 2 (eBin dMod (eCa bInt (eCons (eCup false) eNil)) (eNm 1)))
    (sSeq (sCup false (eBin dDiv (eCup false) (eNm 1)))
    (sRet (eNm 2))))
    sNil)
  (sSeq (sCup true (eBin dMod (eCa bInt (eCons (eBin dAdd (eBin dMul (eCup true) (eC (.int 30707))) (eC (.int 7757))) eNil)) (eC (.int 2147482951))))
  (sSeq (sSet 3 (eBin dMod (eCa bInt (eCons (eBin dMul (eCup true) (eBin dAdd (eCup true) (eC (.int 227)))) eNil)) (eC (.int 2147483059))))
  (sRet (eBin dMod (eCa bInt (eCons (eBin dDiv (eNm 3) (eC (.int 823))) eNil)) (eNm 1))))))
def m_law_some : Mean := mean true 2
  (sRet (eBin dIx (eNm 1) (eCall m_law_roll (eCons (eCa bLen (eCons (eNm 1) eNil)) eNil))))
def m_law_frame : Mean := mean true 7
  (sSeq (sSet 2 (eLst eNil))
  (sSeq (sFor (gNm 3) (eRg2 (eC (.int 1)) (eC (.int 5)))
    (sFor (gNm 4) (eRg2 (eC (.int 2)) (eC (.int 9)))
      (sSeq (sSet 5 (eNm 4))
      (sSeq (sFor (gNm 6) (eRg1 (eBin dSub (eNm 3) (eC (.int 1))))
        (sSet 5 (eBin dMul (eNm 5) (eNm 4))))
      (sSet 2 (eBin dAdd (eNm 2) (eIf (eB (eBin dLe (eNm 5) (eNm 1))) (eLst (eCons (eTup (eCons (eNm 3) (eCons (eNm 4) eNil))) eNil)) (eLst eNil))))))))
  (sRet (eCall m_law_some (eCons (eNm 2) eNil)))))
def m_law_turns : Mean := mean false 8
  (sSeq (sSet 3 (eC (.int 0)))
  (sSeq (sFor (gTp (gsCons (gNm 4) (gsCons (gNm 5) gsNil))) (eZip (eNm 1) (eNm 2))
    (sSeq (sAsg (gTp (gsCons (gNm 6) (gsCons (gNm 7) gsNil))) (eTup (eCons (eC (.int 0)) (eCons (eC (.int 0)) eNil))))
    (sSeq (sWhile (eB (eBin dNe (eBin dMod (eBin dAdd (eNm 4) (eNm 6)) (eBin dIx (eNm 0) (eC (.int 1)))) (eNm 5)))
      (sSet 6 (eBin dAdd (eNm 6) (eC (.int 1)))))
    (sSeq (sWhile (eB (eBin dNe (eBin dMod (eBin dSub (eNm 4) (eNm 7)) (eBin dIx (eNm 0) (eC (.int 1)))) (eNm 5)))
      (sSet 7 (eBin dAdd (eNm 7) (eC (.int 1)))))
    (sSet 3 (eBin dAdd (eNm 3) (eCa bMin2 (eCons (eNm 6) (eCons (eNm 7) eNil)))))))))
  (sRet (eNm 3))))
def m_law_sign : Mean := mean true 3
  (sRet (eCa bTuple (eCons (eLc [2] (gNm 2) (eRg1 (eBin dIx (eNm 1) (eC (.int 0)))) (eC (.bool true)) (eCall m_law_roll (eCons (eBin dIx (eNm 1) (eC (.int 1))) eNil))) eNil)))
def m_behind : Mean := mean false 3
  (sRet (eCa bTuple (eCons (eLc [2] (gNm 2) (eIt (eRv (eNm 1))) (eC (.bool true)) (eBin dMod (eBin dSub (eBin dIx (eNm 0) (eC (.int 1))) (eNm 2)) (eBin dIx (eNm 0) (eC (.int 1))))) eNil)))
def m_from_behind : Mean := mean false 2
  (sSeq (sDrop (eCall m_need_frame (eCons (eNm 0) eNil)))
  (sSeq (sDrop (eCall m_need_sign (eCons (eNm 0) (eCons (eNm 1) eNil))))
  (sRet (eCall m_behind (eCons (eNm 0) (eCons (eNm 1) eNil))))))
def m_next_signs : Mean := mean false 6
  (sSeq (sDrop (eCall m_need_frame (eCons (eNm 0) eNil)))
  (sSeq (sDrop (eCall m_need_sign (eCons (eNm 0) (eCons (eNm 1) eNil))))
  (sSeq (sSet 2 (eLst eNil))
  (sSeq (sFor (gTp (gsCons (gNm 3) (gsCons (gNm 4) gsNil))) (eEnum (eNm 1))
    (sFor (gNm 5) (eIt (eTup (eCons (eC (.int 1)) (eCons (eNeg (eC (.int 1))) eNil))))
      (sApp 2 (eBin dAdd (eBin dAdd (eSl (eNm 1) eoN (eoS (eNm 3))) (eTup (eCons (eBin dMod (eBin dAdd (eNm 4) (eNm 5)) (eBin dIx (eNm 0) (eC (.int 1)))) eNil))) (eSl (eNm 1) (eoS (eBin dAdd (eNm 3) (eC (.int 1)))) eoN)))))
  (sRet (eCa bTuple (eCons (eCa bSS (eCons (eNm 2) eNil)) eNil)))))))
def m_law_turns_right : Mean := mean true 12
  (sSeq (sSet 1 (eCall m_law_frame (eCons (eC (.int 4096)) eNil)))
  (sSeq (sPar [2, 3, 4] (eCons (eCall m_law_sign (eCons (eNm 1) eNil)) (eCons (eCall m_law_sign (eCons (eNm 1) eNil)) (eCons (eCall m_law_sign (eCons (eNm 1) eNil)) eNil))))
  (sSeq (sSet 5 (eCall m_law_turns (eCons (eNm 1) (eCons (eNm 2) (eCons (eNm 3) eNil)))))
  (sSeq (sSet 6 (eCall m_turns_between (eCons (eNm 1) (eCons (eCall m_from_behind (eCons (eNm 1) (eCons (eNm 2) eNil))) (eCons (eCall m_from_behind (eCons (eNm 1) (eCons (eNm 3) eNil))) eNil)))))
  (sSeq (sSet 7 (eTup (eCons (eCall m_turns_between (eCons (eNm 1) (eCons (eNm 2) (eCons (eNm 3) eNil)))) (eCons (eCall m_turns_between (eCons (eNm 1) (eCons (eNm 3) (eCons (eNm 2) eNil)))) (eCons (eNm 6) eNil)))))
  (sSeq (sIf (eOr (eNot (eB (eCall (m_law_same 8) (eCons (eNm 7) (eCons (eTup (eCons (eNm 5) (eCons (eNm 5) (eCons (eNm 5) eNil)))) eNil))))) (eB (eBin dGt (eNm 5) (eBin dAdd (eCall m_law_turns (eCons (eNm 1) (eCons (eNm 2) (eCons (eNm 4) eNil)))) (eCall m_law_turns (eCons (eNm 1) (eCons (eNm 4) (eCons (eNm 3) eNil))))))))
    (sRet (eC (.bool false)))
    sNil)
  (sSeq (sSet 8 (eC (.dict [])))
  (sSeq (sFor (gNm 9) (eRg1 (eBin dIx (eNm 1) (eC (.int 0))))
    (sFor (gNm 10) (eRg1 (eBin dIx (eNm 1) (eC (.int 1))))
      (sSeq (sSet 11 (eBin dAdd (eBin dAdd (eSl (eNm 2) eoN (eoS (eNm 9))) (eTup (eCons (eNm 10) eNil))) (eSl (eNm 2) (eoS (eBin dAdd (eNm 9) (eC (.int 1)))) eoN)))
      (sIf (eB (eBin dEq (eCall m_law_turns (eCons (eNm 1) (eCons (eNm 2) (eCons (eNm 11) eNil)))) (eC (.int 1))))
        (sPut 8 (eNm 11) (eC (.bool true)))
        sNil))))
  (sRet (eCall (m_law_same 8) (eCons (eCall m_next_signs (eCons (eNm 1) (eCons (eNm 2) eNil))) (eCons (eCa bTuple (eCons (eCa bSorted4 (eCons (eNm 8) eNil)) eNil)) eNil))))))))))))
def m_power : Mean := mean false 4
  (sSeq (sSet 2 (eC (.int 1)))
  (sSeq (sFor (gNm 3) (eRg1 (eNm 1))
    (sSet 2 (eBin dMul (eNm 2) (eNm 0))))
  (sRet (eNm 2))))
def m_all_many : Mean := mean false 1
  (sRet (eCall m_power (eCons (eBin dIx (eNm 0) (eC (.int 1))) (eCons (eBin dIx (eNm 0) (eC (.int 0))) eNil))))
def m_need_listed : Mean := mean false 2
  (sSeq (sDrop (eCall m_need_frame (eCons (eNm 0) eNil)))
  (sIf (eB (eBin dGt (eCall m_all_many (eCons (eNm 0) eNil)) (eNm 1)))
    sNever
    sNil))
def m_row_in : Mean := mean false 8
  (sSeq (sSet 1 (eLst (eCons (eTup eNil) eNil)))
  (sSeq (sFor (gNm 2) (eRg1 (eBin dIx (eNm 0) (eC (.int 0))))
    (sSeq (sSet 3 (eLst eNil))
    (sSeq (sFor (gTp (gsCons (gNm 4) (gsCons (gNm 5) gsNil))) (eEnum (eNm 1))
      (sSeq (sSet 6 (eLst (eRg1 (eBin dIx (eNm 0) (eC (.int 1))))))
      (sExt 3 (eLc [7] (gNm 7) (eIt (eIf (eB (eBin dEq (eBin dMod (eNm 4) (eC (.int 2))) (eC (.int 0)))) (eNm 6) (eRv (eNm 6)))) (eC (.bool true)) (eBin dAdd (eNm 5) (eTup (eCons (eNm 7) eNil)))))))
    (sSet 1 (eNm 3)))))
  (sRet (eNm 1))))
def m_one_step_row : Mean := mean false 1
  (sSeq (sDrop (eCall m_need_listed (eCons (eNm 0) (eCons (eC (.int 512)) eNil))))
  (sRet (eCa bTuple (eCons (eCall m_row_in (eCons (eNm 0) eNil)) eNil))))
def m_law_all : Mean := mean false 6
  (sSeq (sSet 1 (eLst (eCons (eTup eNil) eNil)))
  (sSeq (sFor (gNm 2) (eRg1 (eBin dIx (eNm 0) (eC (.int 0))))
    (sSeq (sSet 3 (eLst eNil))
    (sSeq (sFor (gNm 4) (eIt (eNm 1))
      (sSet 3 (eBin dAdd (eNm 3) (eLc [5] (gNm 5) (eRg1 (eBin dIx (eNm 0) (eC (.int 1)))) (eC (.bool true)) (eBin dAdd (eNm 4) (eTup (eCons (eNm 5) eNil)))))))
    (sSet 1 (eNm 3)))))
  (sRet (eNm 1))))
def m_law_is_row : Mean := mean false 5
  (sSeq (sIf (eNot (eB (eIsi "tuple" (eNm 1))))
    (sRet (eC (.bool false)))
    sNil)
  (sSeq (sFor (gNm 2) (eIt (eNm 1))
    (sSeq (sIf (eOr (eNot (eB (eIsi "tuple" (eNm 2)))) (eB (eBin dNe (eCa bLen (eCons (eNm 2) eNil)) (eBin dIx (eNm 0) (eC (.int 0))))))
      (sRet (eC (.bool false)))
      sNil)
    (sIf (eB (eBin dNe (eLc [3] (gNm 3) (eIt (eNm 2)) (eOr (eNot (eB (eIsi "int" (eNm 3)))) (eOr (eB (eIsi "bool" (eNm 3))) (eNot (eB (eChn dLe dLt (eC (.int 0)) (eNm 3) (eBin dIx (eNm 0) (eC (.int 1)))))))) (eNm 3)) (eLst eNil)))
      (sRet (eC (.bool false)))
      sNil)))
  (sSeq (sIf (eB (eBin dNe (eCa bSorted3 (eCons (eNm 1) eNil)) (eCall m_law_all (eCons (eNm 0) eNil))))
    (sRet (eC (.bool false)))
    sNil)
  (sRet (eBin dEq (eLc [3, 4] (gTp (gsCons (gNm 3) (gsCons (gNm 4) gsNil))) (eZip (eNm 1) (eSl (eNm 1) (eoS (eC (.int 1))) eoN)) (eB (eBin dNe (eCall m_law_turns (eCons (eNm 0) (eCons (eNm 3) (eCons (eNm 4) eNil)))) (eC (.int 1)))) (eC (.int 1))) (eLst eNil))))))
def m_law_near : Mean := mean true 10
  (sSeq (sAsg (gTp (gsCons (gNm 3) (gsCons (gNm 4) gsNil))) (eTup (eCons (eCall m_law_roll (eCons (eCa bLen (eCons (eNm 2) eNil)) eNil)) (eCons (eCall m_law_roll (eCons (eCa bLen (eCons (eNm 2) eNil)) eNil)) eNil))))
  (sSeq (sSet 5 (eLst (eCons (eNm 2) (eCons (eRv (eNm 2)) (eCons (eSl (eNm 2) (eoS (eC (.int 1))) eoN) (eCons (eBin dAdd (eNm 2) (eSl (eNm 2) eoN (eoS (eC (.int 1))))) (eCons (eBin dAdd (eSl (eNm 2) (eoS (eNm 3)) eoN) (eSl (eNm 2) eoN (eoS (eNm 3)))) (eCons (eCa bListAll (eCons (eNm 2) eNil)) (eCons (eC .none) (eCons (eTup eNil) (eCons (eC (.str "row")) (eCons (eC (.int 5)) (eCons (eCa bTuple (eCons (eCall m_law_all (eCons (eNm 1) eNil)) eNil)) eNil)))))))))))))
  (sSeq (sApp 5 (eCa bTuple (eCons (eLc [7] (gNm 7) (eIt (eNm 2)) (eC (.bool true)) (eCa bTuple (eCons (eLc [8] (gNm 8) (eIt (eNm 7)) (eC (.bool true)) (eBin dMod (eBin dAdd (eNm 8) (eC (.int 1))) (eBin dIx (eNm 1) (eC (.int 1))))) eNil))) eNil)))
  (sSeq (sApp 5 (eCa bTuple (eCons (eLc [7] (gNm 7) (eIt (eNm 2)) (eC (.bool true)) (eRv (eNm 7))) eNil)))
  (sSeq (sSet 6 (eLst (eCons (eBin dIx (eNm 2) (eNm 4)) (eCons (eCa bListAll (eCons (eBin dIx (eNm 2) (eNm 3)) eNil)) (eCons (eSl (eBin dIx (eNm 2) (eNm 3)) (eoS (eC (.int 1))) eoN) (eCons (eBin dAdd (eBin dIx (eNm 2) (eNm 3)) (eTup (eCons (eC (.int 0)) eNil))) (eCons (eC .none) (eCons (eBin dAdd (eTup (eCons (eC (.bool true)) eNil)) (eSl (eBin dIx (eNm 2) (eNm 3)) (eoS (eC (.int 1))) eoN)) (eCons (eBin dAdd (eTup (eCons (eBin dIx (eNm 1) (eC (.int 1))) eNil)) (eSl (eBin dIx (eNm 2) (eNm 3)) (eoS (eC (.int 1))) eoN)) (eCons (eBin dAdd (eTup (eCons (eNeg (eC (.int 1))) eNil)) (eSl (eBin dIx (eNm 2) (eNm 3)) (eoS (eC (.int 1))) eoN)) eNil))))))))))
  (sRet (eBin dAdd (eNm 5) (eLc [9] (gNm 9) (eIt (eBin dAdd (eNm 6) (eLst (eCons (eBin dAdd (eTup (eCons (eC .none) eNil)) (eSl (eBin dIx (eNm 2) (eNm 3)) (eoS (eC (.int 1))) eoN)) (eCons (eTup eNil) eNil))))) (eC (.bool true)) (eBin dAdd (eBin dAdd (eSl (eNm 2) eoN (eoS (eNm 3))) (eTup (eCons (eNm 9) eNil))) (eSl (eNm 2) (eoS (eBin dAdd (eNm 3) (eC (.int 1)))) eoN))))))))))
def m_signs_of : Mean := mean false 5
  (sSeq (sSet 1 (eLst (eCons (eTup eNil) eNil)))
  (sSeq (sFor (gNm 2) (eRg1 (eBin dIx (eNm 0) (eC (.int 0))))
    (sSet 1 (eLc2 [3, 4] [4] (gNm 3) (eIt (eNm 1)) (eC (.bool true)) (gNm 4) (eRg1 (eBin dIx (eNm 0) (eC (.int 1)))) (eC (.bool true)) (eBin dAdd (eNm 3) (eTup (eCons (eNm 4) eNil))))))
  (sRet (eNm 1))))
def m_is_one_step_row : Mean := mean false 7
  (sSeq (sDrop (eCall m_need_listed (eCons (eNm 0) (eCons (eC (.int 512)) eNil))))
  (sSeq (sSet 2 (eCall m_all_many (eCons (eNm 0) eNil)))
  (sSeq (sIf (eOr (eNot (eB (eCall m_is_tuple_of (eCons (eNm 1) (eCons (eNm 2) (eCons (eNm 2) eNil)))))) (eNot (eB (eCa bAll (eCons (eLc [4] (gNm 4) (eIt (eNm 1)) (eC (.bool true)) (eCall m_fits_sign (eCons (eNm 0) (eCons (eNm 4) eNil)))) eNil)))))
    (sRet (eC (.bool false)))
    sNil)
  (sSeq (sSet 3 (eLc [4, 5] (gTp (gsCons (gNm 4) (gsCons (gNm 5) gsNil))) (eZip (eNm 1) (eSl (eNm 1) (eoS (eC (.int 1))) eoN)) (eC (.bool true)) (eCall m_turns_in (eCons (eNm 0) (eCons (eNm 4) (eCons (eNm 5) eNil))))))
  (sRet (eAnd (eBin dEq (eCa bSorted3 (eCons (eNm 1) eNil)) (eCall m_signs_of (eCons (eNm 0) eNil))) (eCa bAll (eCons (eLc [6] (gNm 6) (eIt (eNm 3)) (eC (.bool true)) (eBin dEq (eNm 6) (eC (.int 1)))) eNil))))))))
def m_law_rows_right : Mean := mean true 4
  (sSeq (sSet 1 (eCall m_law_frame (eCons (eCall m_law_some (eCons (eLst (eCons (eC (.int 9)) (eCons (eC (.int 64)) (eCons (eC (.int 128)) eNil)))) eNil)) eNil)))
  (sSeq (sSet 2 (eCall m_one_step_row (eCons (eNm 1) eNil)))
  (sSeq (sIf (eNot (eB (eCall m_law_is_row (eCons (eNm 1) (eCons (eNm 2) eNil)))))
    (sRet (eC (.bool false)))
    sNil)
  (sRet (eBin dEq (eLc [3] (gNm 3) (eIt (eCall m_law_near (eCons (eNm 1) (eCons (eNm 2) eNil)))) (eNot (eB (eCall (m_law_same 8) (eCons (eCall m_is_one_step_row (eCons (eNm 1) (eCons (eNm 3) eNil))) (eCons (eCall m_law_is_row (eCons (eNm 1) (eCons (eNm 3) eNil))) eNil))))) (eNm 3)) (eLst eNil))))))
def m_law : Sv :=
  (sSeq (sFor (gNm 2) (eRg1 (eC (.int 4)))
    (sIf (eNot (eB (eCall m_law_turns_right eNil)))
      (sRet (eC (.bool false)))
      sNil))
  (sSeq (sIf (eOr (eNot (eB (eCall m_law_rows_right eNil))) (eNot (eB (eCall m_law_rows_right eNil))))
    (sRet (eC (.bool false)))
    sNil)
  (sSeq (sPar [3, 4] (eCons (eBin dAdd (eC (.int 1)) (eCall m_law_roll (eCons (eC (.int 4)) eNil))) (eCons (eBin dMul (eC (.int 2)) (eBin dAdd (eC (.int 1)) (eCall m_law_roll (eCons (eC (.int 4)) eNil)))) eNil)))
  (sSeq (sSet 5 (eCall m_turns_between (eCons (eTup (eCons (eNm 3) (eCons (eNm 4) eNil))) (eCons (eBin dMul2 (eTup (eCons (eC (.int 0)) eNil)) (eNm 3)) (eCons (eBin dMul2 (eTup (eCons (eBin dDiv (eNm 4) (eC (.int 2))) eNil)) (eNm 3)) eNil)))))
  (sRet (eAnd (eCall (m_law_same 8) (eCons (eNm 5) (eCons (eBin dMul (eNm 3) (eBin dDiv (eNm 4) (eC (.int 2)))) eNil))) (eCall (m_law_same 8) (eCons (eCa bLen (eCons (eCall m_next_signs (eCons (eTup (eCons (eC (.int 4)) (eCons (eC (.int 8)) eNil))) (eCons (eTup (eCons (eC (.int 0)) (eCons (eC (.int 3)) (eCons (eC (.int 7)) (eCons (eC (.int 5)) eNil))))) eNil))) eNil)) (eCons (eC (.int 8)) eNil)))))))))
end L_k14
namespace L_k14
open PySem MP MP.SI
local macro_rules | `(tactic| walk_at "w") => `(tactic| first
  | with_reducible refine w_seq ?_
  | with_reducible refine w_set ?_
  | with_reducible refine w_ret ?_
  | with_reducible refine w_cons ?_
  | with_reducible refine w_nil ?_
  | with_reducible refine w_c ?_
  | ((with_reducible refine' w_nm ?hnm ?_); (case hnm => exact rfl))
  | with_reducible refine w_bin ?_
  | with_reducible refine w_b ?_
  | with_reducible refine w_not ?_
  | with_reducible refine w_and ?_
  | with_reducible refine w_or ?_
  | with_reducible refine w_if ?_
  | with_reducible refine w_sif ?_
  | with_reducible refine w_chn ?_
  | with_reducible refine w_call ?_
  | with_reducible refine w_ca ?_
  | with_reducible refine w_tup ?_
  | with_reducible refine w_lst ?_
  | with_reducible refine w_isi ?_
  | with_reducible refine w_drop ?_
  | with_reducible refine w_snil ?_
  | with_reducible refine w_par ?_
  | with_reducible refine w_asg ?_
  | with_reducible refine w_for ?_
  | with_reducible refine w_lc ?_
  | with_reducible refine w_it ?_
  | with_reducible refine w_zip ?_
  | with_reducible refine w_enum ?_
  | with_reducible refine w_sl2 ?_
  | with_reducible refine w_eoN ?_
  | with_reducible refine w_eoS ?_
  | with_reducible refine w_me ?_
  | with_reducible refine w_rev ?_
  | ((with_reducible refine' w_app ?hap ?_); (case hap => exact rfl))
  | ((with_reducible refine' w_augI ?hap ?_); (case hap => exact rfl))
  | with_reducible refine w_rg1 ?_
  | with_reducible refine w_rg2 ?_
  | with_reducible refine w_scup ?_
  | with_reducible refine w_cup ?_
  | with_reducible refine w_neg ?_
  | with_reducible refine w_mean ?_
  | with_reducible refine ⟨_, dLt_ii, ?_⟩
  | with_reducible refine ⟨_, dGt_ii, ?_⟩
  | with_reducible refine ⟨_, dLe_ii, ?_⟩
  | with_reducible refine ⟨_, dGe_ii, ?_⟩
  | with_reducible refine ⟨_, dEq_ii, ?_⟩
  | with_reducible refine ⟨_, dNe_ii, ?_⟩
  | with_reducible refine ⟨_, dLe_ii, fun _ => ?_, fun _ => ?_⟩
  | with_reducible refine ⟨_, dLt_ii, fun _ => ?_, fun _ => ?_⟩
  | with_reducible refine ⟨_, dAdd_ii, ?_⟩
  | with_reducible refine ⟨_, dSub_ii, ?_⟩
  | with_reducible refine ⟨_, isi_int_int, ?_⟩
  | with_reducible refine ⟨_, isi_int_bool, ?_⟩
  | with_reducible refine ⟨_, isi_int_str, ?_⟩
  | with_reducible refine ⟨_, isi_int_tuple, ?_⟩
  | with_reducible refine ⟨_, isi_tuple_int, ?_⟩
  | with_reducible refine ⟨_, isi_tuple_bool, ?_⟩
  | with_reducible refine ⟨_, isi_tuple_str, ?_⟩
  | with_reducible refine ⟨_, isi_tuple_tuple, ?_⟩
  | with_reducible refine ⟨_, isi_str_int, ?_⟩
  | with_reducible refine ⟨_, isi_str_bool, ?_⟩
  | with_reducible refine ⟨_, isi_str_str, ?_⟩
  | with_reducible refine ⟨_, isi_str_tuple, ?_⟩
  | with_reducible refine ⟨_, isi_bool_int, ?_⟩
  | with_reducible refine ⟨_, isi_bool_bool, ?_⟩
  | with_reducible refine ⟨_, isi_bool_str, ?_⟩
  | with_reducible refine ⟨_, isi_bool_tuple, ?_⟩
  | with_reducible refine ⟨_, isi_none_int, ?_⟩
  | with_reducible refine ⟨_, isi_none_bool, ?_⟩
  | with_reducible refine ⟨_, isi_none_str, ?_⟩
  | with_reducible refine ⟨_, isi_none_tuple, ?_⟩
  | with_reducible refine ⟨_, isi_list_int, ?_⟩
  | with_reducible refine ⟨_, isi_list_bool, ?_⟩
  | with_reducible refine ⟨_, isi_list_str, ?_⟩
  | with_reducible refine ⟨_, isi_list_tuple, ?_⟩
  | with_reducible refine ⟨true, rfl, fun _ => ?_, fun h => absurd h (by decide)⟩
  | with_reducible refine ⟨false, rfl, fun h => absurd h (by decide), fun _ => ?_⟩
  | (fail_if_success with_reducible refine mul_shape ?_); (fail_if_success with_reducible refine mul2_shape ?_); with_reducible refine ⟨_, rfl, fun hb => ?_, fun hb => ?_⟩
  | (fail_if_success with_reducible refine mul_shape ?_); (fail_if_success with_reducible refine mul2_shape ?_); with_reducible refine ⟨_, rfl, ?_⟩
  | with_reducible refine ⟨fun hb => ?_, fun hb => ?_⟩
  | with_reducible exact ⟨rfl, rfl⟩
  | with_reducible refine ⟨(rfl : isLst _ = true), ?_⟩)
theorem rollOk : RollOk m_law_roll := fun many h1 h2 cp => roll_gen rfl (by decide) (by decide) (by decide) (by decide) h1 h2 cp
abbrev Fm (a p : Nat) : D := .tuple [.int a, .int p]
def FOk (a p : Nat) : Prop := (1 ≤ a ∧ a ≤ 4) ∧ 2 ≤ p ∧ p ≤ 8
theorem need_frame_ok {a p : Nat} (h : FOk a p) (cp : Cup) : m_need_frame [Fm a p] cp = .ok .none cp := by
  obtain ⟨h1, h2⟩ := h
  refine wp_of ?_
  unfold m_need_frame m_fits_frame
  repeat walk_at "w"
  refine w_eq (is_tuple_any rfl _) ?_
  have e : tupD 2 2 (Fm a p) = true := rfl
  rw [e]
  repeat walk_at "w"
  refine w_eq (fits_whole_any rfl _) ?_
  have e : wholeD 1 4 (.int a) = true := by
    show (decide ((1 : Int) ≤ a) && decide ((a : Int) ≤ 4)) = true
    rw [decide_eq_true (by omega), decide_eq_true (by omega)]
    rfl
  rw [e]
  repeat walk_at "w"
  refine w_eq (fits_whole_any rfl _) ?_
  have e : wholeD 2 8 (.int p) = true := by
    show (decide ((2 : Int) ≤ p) && decide ((p : Int) ≤ 8)) = true
    rw [decide_eq_true (by omega), decide_eq_true (by omega)]
    rfl
  rw [e]
  repeat walk_at "w"
theorem pow_le {b i : Nat} (hb : b ≤ 8) (hi : i ≤ 4) : b ^ i ≤ 4096 := Nat.le_trans (Nat.pow_le_pow_left hb i) (Nat.pow_le_pow_right (by decide : 0 < 8) hi)
theorem power_ok {b k : Nat} (hb : b ≤ 8) (hk : k ≤ 4) (cp : Cup) : m_power [.int b, .int k] cp = .ok (.int ((b ^ k : Nat) : Int)) cp := by
  refine wp_of ?_
  unfold m_power
  repeat walk_at "w"
  refine ⟨by simp [okR]; omega, okLen_of (by omega), ?_⟩
  rw [show ((k : Int)).toNat = k from rfl, rangeL0]
  refine forGo_map (l := List.range k) (I := fun ps r env c => c = cp ∧ ∃ z, env = [some (.int b), some (.int k), some (.int ((b ^ ps.length : Nat) : Int)), z]) ?_ ?_ _ [] _ _ rfl ⟨rfl, none, rfl⟩
  · rintro ps i r env c e ⟨rfl, z, rfl⟩
    have hl : ps.length < k := by
      have := congrArg List.length e
      rw [List.length_range, List.length_append, List.length_cons] at this
      omega
    refine ⟨_, rfl, ?_⟩
    repeat walk_at "w"
    refine ⟨_, mul_nat (by have := pow_le hb (show ps.length ≤ 4 by omega); omega), ?_⟩
    refine ⟨rfl, some (.int i), ?_⟩
    rw [List.length_append, List.length_singleton, Nat.pow_succ]
    rfl
  · rintro env c ⟨rfl, z, rfl⟩
    rw [List.length_range]
    repeat walk_at "w"
theorem all_many_ok {a p : Nat} (h : FOk a p) (cp : Cup) : m_all_many [Fm a p] cp = .ok (.int ((p ^ a : Nat) : Int)) cp := by
  refine wp_of ?_
  unfold m_all_many
  repeat walk_at "w"
  exact w_eq (power_ok h.2.2 h.1.2 _) ⟨rfl, rfl⟩
def allS (p : Nat) : Nat → List (List Nat)
  | 0 => [[]]
  | a + 1 => (allS p a).flatMap fun one => (List.range p).map fun q => one ++ [q]
theorem mem_allS {p : Nat} : ∀ {a : Nat} {s : List Nat}, s ∈ allS p a ↔ s.length = a ∧ ∀ q ∈ s, q < p
  | 0, s => by
    show s ∈ [[]] ↔ _
    rw [List.mem_singleton, List.length_eq_zero_iff]
    constructor
    · rintro rfl
      exact ⟨rfl, fun q hq => by cases hq⟩
    · exact fun h => h.1
  | a + 1, s => by
    show s ∈ (allS p a).flatMap _ ↔ _
    rw [List.mem_flatMap]
    constructor
    · rintro ⟨one, h1, h2⟩
      obtain ⟨q, hq, rfl⟩ := List.mem_map.mp h2
      obtain ⟨h3, h4⟩ := mem_allS.mp h1
      refine ⟨by rw [List.length_append, h3]; rfl, fun x hx => ?_⟩
      rcases List.mem_append.mp hx with hx | hx
      · exact h4 x hx
      · obtain rfl := List.mem_singleton.mp hx
        exact List.mem_range.mp hq
    · rintro ⟨h1, h2⟩
      have ne : s ≠ [] := fun z => by rw [z] at h1; cases h1
      refine ⟨s.dropLast, mem_allS.mpr ⟨by rw [List.length_dropLast, h1]; rfl, fun x hx => h2 x ((List.dropLast_sublist s).mem hx)⟩, List.mem_map.mpr ⟨s.getLast ne, List.mem_range.mpr (h2 _ (List.getLast_mem ne)), List.dropLast_concat_getLast ne⟩⟩
theorem len_allS (p : Nat) : ∀ a : Nat, (allS p a).length = p ^ a
  | 0 => rfl
  | a + 1 => by
    show ((allS p a).flatMap _).length = _
    rw [List.length_flatMap, List.map_congr_left (g := fun _ => p) fun x _ => by rw [List.length_map, List.length_range], List.map_const', List.sum_replicate_nat, len_allS p a, Nat.pow_succ]
theorem allS_len {a p : Nat} {s : List Nat} (h : s ∈ allS p a) : s.length = a := (mem_allS.mp h).1
theorem signs_of_ok {a p : Nat} (h : FOk a p) (cp : Cup) : m_signs_of [Fm a p] cp = .ok (.list ((allS p a).map NT)) cp := by
  refine wp_of ?_
  unfold m_signs_of
  repeat walk_at "w"
  refine ⟨by simp [okR]; have := h.1.2; omega, okLen_of (by have := h.1.2; omega), ?_⟩
  rw [show ((a : Int)).toNat = a from rfl, rangeL0]
  refine forGo_map (l := List.range a) (I := fun ps r env c => c = cp ∧ ∃ z z3 z4, env = [some (Fm a p), some (.list ((allS p ps.length).map NT)), z, z3, z4]) ?_ ?_ _ [] _ _ rfl ⟨rfl, none, none, none, rfl⟩
  · rintro ps i r env c e ⟨rfl, z, z3, z4, rfl⟩
    have hl : ps.length < a := by
      have := congrArg List.length e
      rw [List.length_range, List.length_append, List.length_cons] at this
      omega
    refine ⟨_, rfl, ?_⟩
    refine w_set ?_
    refine w_lc2 ?_
    repeat walk_at "w"
    refine w_eq (lcGo2_mapA (l := allS p ps.length) (ee := fun one => (List.range p).map fun q => NT (one ++ [q])) fun one h1 => ⟨_, rfl, fun cp => ⟨rangeL 0 p, wp_of ?_, ?_⟩⟩) ?_
    · repeat walk_at "w"
      exact ⟨by simp [okR]; have := h.2.2; omega, okLen_of (by have := h.2.2; omega), rfl, rfl⟩
    · rw [rangeL0]
      refine lcGo_mapA (ee := fun q => NT (one ++ [q])) fun q hq => ⟨_, rfl, fun cp => wp_of ?_⟩
      repeat walk_at "w"
      exact ⟨_, add_NT (s := one) (t := [q]) (by rw [allS_len h1]; simp; have := h.1.2; omega), rfl, rfl⟩
    have e2 : ((allS p ps.length).flatMap fun one => (List.range p).map fun q => NT (one ++ [q])) = (allS p (ps.length + 1)).map NT := by
      show _ = ((allS p ps.length).flatMap _).map NT
      rw [List.map_flatMap]
      congr 1
      funext x
      rw [List.map_map]
      rfl
    rw [e2]
    refine ⟨?_, rfl, some (.int i), z3, z4, ?_⟩
    · rw [List.length_map, len_allS]
      have := pow_le h.2.2 (show ps.length + 1 ≤ 4 by have := h.1.2; omega)
      omega
    · rw [List.length_append, List.length_singleton]
      rfl
  · rintro env c ⟨rfl, z, z3, z4, rfl⟩
    rw [List.length_range]
    repeat walk_at "w"
theorem law_all_ok {a p : Nat} (h : FOk a p) (cp : Cup) : m_law_all [Fm a p] cp = .ok (.list ((allS p a).map NT)) cp := by
  refine wp_of ?_
  unfold m_law_all
  repeat walk_at "w"
  refine ⟨by simp [okR]; have := h.1.2; omega, okLen_of (by have := h.1.2; omega), ?_⟩
  rw [show ((a : Int)).toNat = a from rfl, rangeL0]
  refine forGo_map (l := List.range a) (I := fun ps r env c => c = cp ∧ ∃ z2 z3 z4 z5, env = [some (Fm a p), some (.list ((allS p ps.length).map NT)), z2, z3, z4, z5]) ?_ ?_ _ [] _ _ rfl ⟨rfl, none, none, none, none, rfl⟩
  · rintro ps i r env c e ⟨rfl, z2, z3, z4, z5, rfl⟩
    have hl : ps.length < a := by
      have := congrArg List.length e
      rw [List.length_range, List.length_append, List.length_cons] at this
      omega
    refine ⟨_, rfl, ?_⟩
    repeat walk_at "w"
    refine forGo_map (l := allS p ps.length) (I := fun qs r env c2 => c2 = c ∧ ∃ z4 z5, env = [some (Fm a p), some (.list ((allS p ps.length).map NT)), some (.int i), some (.list ((qs.flatMap fun one => (List.range p).map fun q => one ++ [q]).map NT)), z4, z5]) ?_ ?_ _ [] _ _ rfl ⟨rfl, z4, z5, rfl⟩
    · rintro qs one r2 env c2 e2 ⟨rfl, z4, z5, rfl⟩
      have h1 : one ∈ allS p ps.length := by rw [e2]; simp
      refine ⟨_, rfl, ?_⟩
      repeat walk_at "w"
      refine ⟨by simp [okR]; have := h.2.2; omega, okLen_of (by have := h.2.2; omega), ?_⟩
      rw [show ((p : Int)).toNat = p from rfl, rangeL0]
      refine w_eq (lcGo_mapA (l := List.range p) (ee := fun q => NT (one ++ [q])) fun q hq => ⟨_, rfl, fun cp => wp_of ?_⟩) ?_
      · repeat walk_at "w"
        exact ⟨_, add_NT (s := one) (t := [q]) (by rw [allS_len h1]; simp; have := h.1.2; omega), rfl, rfl⟩
      have hc : ∀ qs : List (List Nat), (qs.flatMap fun one => (List.range p).map fun q => one ++ [q]).length = qs.length * p := fun qs => by
        rw [List.length_flatMap, List.map_congr_left (g := fun _ => p) fun x _ => by rw [List.length_map, List.length_range], List.map_const', List.sum_replicate_nat]
      have hq : qs.length + 1 ≤ 4096 := by
        have h3 := congrArg List.length e2
        rw [List.length_append, List.length_cons, len_allS] at h3
        have := pow_le (b := p) (i := ps.length) h.2.2 (by have := h.1.2; omega)
        omega
      refine ⟨_, dAdd_lst (by
        rw [List.length_map, hc, List.length_map, List.length_range]
        have : qs.length * p ≤ 4096 * 8 := Nat.mul_le_mul (by omega) h.2.2
        have := h.2.2
        omega), ?_⟩
      refine ⟨rfl, some (NT one), z5, ?_⟩
      have e3 : (qs.flatMap fun one => (List.range p).map fun q => one ++ [q]).map NT ++ (List.range p).map (fun q => NT (one ++ [q])) = ((qs ++ [one]).flatMap fun one => (List.range p).map fun q => one ++ [q]).map NT := by
        rw [List.flatMap_append, List.map_append, List.flatMap_cons, List.flatMap_nil, List.append_nil, List.map_map]
        rfl
      rw [← e3]
      rfl
    · rintro env c2 ⟨rfl, z4, z5, rfl⟩
      repeat walk_at "w"
      refine ⟨rfl, some (.int i), some (.list ((allS p (ps.length + 1)).map NT)), z4, z5, ?_⟩
      rw [List.length_append, List.length_singleton]
      rfl
  · rintro env c ⟨rfl, z2, z3, z4, z5, rfl⟩
    rw [List.length_range]
    repeat walk_at "w"
def bh (p : Nat) (s : List Nat) : List Nat := s.reverse.map fun q => (p - q) % p
theorem behind_ok {a p : Nat} {s : List Nat} (h : FOk a p) (hs : s ∈ allS p a) (cp : Cup) : m_behind [Fm a p, NT s] cp = .ok (NT (bh p s)) cp := by
  obtain ⟨h1, h2⟩ := mem_allS.mp hs
  refine wp_of ?_
  unfold m_behind
  repeat walk_at "w"
  refine w_rv ?_
  repeat walk_at "w"
  rw [← List.map_reverse]
  refine w_eq (lcGo_mapA (l := s.reverse) (ee := fun q => .int (((p - q) % p : Nat) : Int)) fun q hq => ⟨_, rfl, fun cp => wp_of ?_⟩) ?_
  · repeat walk_at "w"
    refine ⟨_, dMod_ii (by have := h.2.1; omega), ?_⟩
    have hq := h2 q (List.mem_reverse.mp hq)
    refine ⟨?_, rfl⟩
    rw [← Int.natCast_sub (Nat.le_of_lt hq), ← Int.natCast_emod]
  repeat walk_at "w"
  refine ⟨?_, rfl⟩
  unfold bh
  rw [NT, List.map_map]
  rfl
theorem bh_same {p q : Nat} (h : q < p) : (if 0 < q then p - q else 0) = (p - q) % p := by
  by_cases k : 0 < q
  · rw [if_pos k, Nat.mod_eq_of_lt (by omega)]
  · have : q = 0 := by omega
    subst this
    rw [if_neg (by decide), Nat.sub_zero, Nat.mod_self]
theorem bh_mem {a p : Nat} {s : List Nat} (hp : 0 < p) (hs : s ∈ allS p a) : bh p s ∈ allS p a := by
  obtain ⟨h1, h2⟩ := mem_allS.mp hs
  refine mem_allS.mpr ⟨by unfold bh; rw [List.length_map, List.length_reverse, h1], fun q hq => ?_⟩
  obtain ⟨x, _, rfl⟩ := List.mem_map.mp hq
  exact Nat.mod_lt _ hp
theorem bh_bh {a p : Nat} {s : List Nat} (hs : s ∈ allS p a) : bh p (bh p s) = s := by
  obtain ⟨h1, h2⟩ := mem_allS.mp hs
  unfold bh
  rw [← List.map_reverse, List.reverse_reverse, List.map_map]
  conv => rhs; rw [← List.map_id s]
  refine List.map_congr_left fun q hq => ?_
  have hq := h2 q hq
  show (p - (p - q) % p) % p = q
  rw [← bh_same hq]
  by_cases k : 0 < q
  · rw [if_pos k, show p - (p - q) = q by omega, Nat.mod_eq_of_lt hq]
  · rw [if_neg k, Nat.sub_zero, Nat.mod_self]
    omega
theorem listed_ok {a p : Nat} (h : FOk a p) (h2 : p ^ a ≤ 512) (cp : Cup) : m_need_listed [Fm a p, .int 512] cp = .ok .none cp := by
  refine wp_of ?_
  unfold m_need_listed
  repeat walk_at "w"
  refine w_eq (need_frame_ok h _) ?_
  repeat walk_at "w"
  refine w_eq (all_many_ok h _) ?_
  repeat walk_at "w"
  · rename_i hb
    have hb := of_decide_eq_true hb
    omega
  repeat walk_at "w"
theorem some_eq : m_law_some = gSome m_law_roll := rfl
theorem law_frame_ok {most : Nat} (hm : 2 ≤ most) (cp : Cup) : Wp (m_law_frame [.int most] cp) fun d _ => ∃ a p, d = Fm a p ∧ FOk a p ∧ p ^ a ≤ most := by
  unfold m_law_frame
  repeat walk_at "w"
  refine ⟨1, 5, rfl, rfl, rfl, rfl, rfl, ?_⟩
  rw [show rangeL 1 ((5 : Int) - 1).toNat = (List.range' 1 4).map fun i : Nat => (.int (i : Int) : D) from rfl]
  refine forGo_map (l := List.range' 1 4) (I := fun ps r env c => ∃ (l : List (Nat × Nat)) (z3 z4 z5 z6 : Option D), env = [none, some (.int most), some (.list (l.map fun f => Fm f.1 f.2)), z3, z4, z5, z6] ∧ (∀ f ∈ l, FOk f.1 f.2 ∧ f.2 ^ f.1 ≤ most) ∧ l.length ≤ 7 * ps.length ∧ (ps ≠ [] → l ≠ [])) ?_ ?_ _ [] _ _ rfl ⟨[], none, none, none, none, rfl, fun f hf => (by cases hf), Nat.le_refl _, fun h => absurd rfl h⟩
  · rintro ps i r env c e ⟨l, z3, z4, z5, z6, rfl, hl, hn, hne⟩
    have hi : 1 ≤ i ∧ i ≤ 4 := by
      have : i ∈ List.range' 1 4 := by rw [e]; simp
      rw [List.mem_range'_1] at this
      omega
    have hps : ps.length ≤ 3 := by
      have := congrArg List.length e
      rw [List.length_append, List.length_cons, List.length_range'] at this
      omega
    have hi1 : ps = [] → i = 1 := fun z => by
      rw [z] at e
      exact (List.cons.inj e).1.symm
    refine ⟨_, rfl, ?_⟩
    repeat walk_at "w"
    refine ⟨2, 9, rfl, rfl, rfl, rfl, rfl, ?_⟩
    rw [show rangeL 2 ((9 : Int) - 2).toNat = (List.range' 2 7).map fun i : Nat => (.int (i : Int) : D) from rfl]
    refine forGo_map (l := List.range' 2 7) (I := fun qs r env c => ∃ (l : List (Nat × Nat)) (z4 z5 z6 : Option D), env = [none, some (.int most), some (.list (l.map fun f => Fm f.1 f.2)), some (.int i), z4, z5, z6] ∧ (∀ f ∈ l, FOk f.1 f.2 ∧ f.2 ^ f.1 ≤ most) ∧ l.length ≤ 7 * ps.length + qs.length ∧ (ps ≠ [] ∨ qs ≠ [] → l ≠ [])) ?_ ?_ _ [] _ _ rfl ⟨l, z4, z5, z6, rfl, hl, hn, fun h => h.elim hne fun z => absurd rfl z⟩
    · rintro qs q r2 env c2 e2 ⟨l, z4, z5, z6, rfl, hl, hn, hne⟩
      have hq : 2 ≤ q ∧ q ≤ 8 := by
        have : q ∈ List.range' 2 7 := by rw [e2]; simp
        rw [List.mem_range'_1] at this
        omega
      have hqs : qs.length ≤ 6 := by
        have := congrArg List.length e2
        rw [List.length_append, List.length_cons, List.length_range'] at this
        omega
      have hq1 : qs = [] → q = 2 := fun z => by
        rw [z] at e2
        exact (List.cons.inj e2).1.symm
      refine ⟨_, rfl, ?_⟩
      repeat walk_at "w"
      refine ⟨by simp [okR]; omega, okLen_of (by omega), ?_⟩
      rw [show ((i : Int) - 1).toNat = i - 1 by omega, rangeL0]
      refine forGo_map (l := List.range (i - 1)) (I := fun ts r env c => ∃ (z6 : Option D), env = [none, some (.int most), some (.list (l.map fun f => Fm f.1 f.2)), some (.int i), some (.int q), some (.int ((q ^ (ts.length + 1) : Nat) : Int)), z6]) ?_ ?_ _ [] _ _ rfl ⟨z6, by rw [List.length_nil, Nat.zero_add, Nat.pow_one]; rfl⟩
      · rintro ts t r3 env c3 e3 ⟨z6, rfl⟩
        have ht : ts.length + 1 ≤ 3 := by
          have := congrArg List.length e3
          rw [List.length_append, List.length_cons, List.length_range] at this
          omega
        refine ⟨_, rfl, ?_⟩
        repeat walk_at "w"
        refine ⟨_, mul_nat (by have := pow_le (b := q) (i := ts.length + 1) (by omega) (by omega); omega), ?_⟩
        refine ⟨some (.int t), ?_⟩
        rw [List.length_append, List.length_singleton, Nat.pow_succ q (ts.length + 1)]
        rfl
      · rintro env c3 ⟨z6, rfl⟩
        rw [List.length_range, show i - 1 + 1 = i by omega]
        repeat walk_at "w"
        · rename_i hb
          have hb := of_decide_eq_true hb
          refine ⟨_, dAdd_lst (by rw [List.length_map]; simp; omega), ?_⟩
          refine ⟨l ++ [(i, q)], some (.int q), some (.int ((q ^ i : Nat) : Int)), z6, ?_, ?_, ?_, ?_⟩
          · rw [List.map_append]
            rfl
          · intro f hf
            rcases List.mem_append.mp hf with hf | hf
            · exact hl f hf
            · obtain rfl := List.mem_singleton.mp hf
              exact ⟨⟨hi, hq⟩, by show q ^ i ≤ most; omega⟩
          · rw [List.length_append, List.length_append, List.length_singleton, List.length_singleton]
            omega
          · intro _ z
            have := congrArg List.length z
            simp at this
        repeat walk_at "w"
        · rename_i hb
          have hb := of_decide_eq_false hb
          refine ⟨_, dAdd_lst (by rw [List.length_map]; simp; omega), ?_⟩
          refine ⟨l, some (.int q), some (.int ((q ^ i : Nat) : Int)), z6, ?_, hl, ?_, ?_⟩
          · rw [List.append_nil]
            rfl
          · rw [List.length_append, List.length_singleton]
            omega
          · intro _
            by_cases h1 : ps = []
            · by_cases h2 : qs = []
              · have := hi1 h1
                have := hq1 h2
                subst i
                subst q
                exact absurd hm (by omega)
              · exact hne (.inr h2)
            · exact hne (.inl h1)
    · rintro env c2 ⟨l, z4, z5, z6, rfl, hl, hn, hne⟩
      refine ⟨l, some (.int i), z4, z5, z6, rfl, hl, ?_, fun _ => hne (.inr (by decide))⟩
      rw [List.length_append, List.length_singleton]
      rw [List.length_range'] at hn
      omega
  · rintro env c ⟨l, z3, z4, z5, z6, rfl, hl, hn, hne⟩
    rw [List.length_range'] at hn
    repeat walk_at "w"
    rw [some_eq]
    refine w_ex (some_ok rollOk (by rw [Ne, List.map_eq_nil_iff]; exact hne (by decide)) (by rw [List.length_map]; omega) _) ?_
    rintro d c2 hd
    obtain ⟨f, hf, rfl⟩ := List.mem_map.mp hd
    exact ⟨f.1, f.2, rfl, hl f hf⟩
theorem ltN_app : ∀ {a b x y : List Nat}, a.length = b.length → (ltN (a ++ x) (b ++ y) = true ↔ ltN a b = true ∨ a = b ∧ ltN x y = true)
  | [], [], x, y, _ => by
    show ltN x y = true ↔ ltN [] [] = true ∨ _
    constructor
    · exact fun h => .inr ⟨rfl, h⟩
    · rintro (h | h)
      · cases h
      · exact h.2
  | [], _ :: _, _, _, h => by cases h
  | _ :: _, [], _, _, h => by cases h
  | a :: as, b :: bs, x, y, h => by
    have ih := ltN_app (a := as) (b := bs) (x := x) (y := y) (Nat.succ.inj h)
    rw [List.cons_append, List.cons_append, ltN_cons, ltN_cons, ih, List.cons.injEq]
    constructor
    · rintro (h | ⟨h, h2 | ⟨h2, h3⟩⟩)
      · exact .inl (.inl h)
      · exact .inl (.inr ⟨h, h2⟩)
      · exact .inr ⟨⟨h, h2⟩, h3⟩
    · rintro ((h | ⟨h, h2⟩) | ⟨⟨h, h2⟩, h3⟩)
      · exact .inl h
      · exact .inr ⟨h, .inl h2⟩
      · exact .inr ⟨h, .inr ⟨h2, h3⟩⟩
theorem range_lt (p : Nat) : (List.range p).Pairwise (· < ·) := List.pairwise_lt_range
theorem allS_pw (p : Nat) : ∀ a : Nat, (allS p a).Pairwise LtN
  | 0 => List.pairwise_singleton _ _
  | a + 1 => by
    show ((allS p a).flatMap _).Pairwise LtN
    rw [List.pairwise_flatMap]
    refine ⟨fun s hs => ?_, ?_⟩
    · rw [List.pairwise_map]
      refine (range_lt p).imp fun {x y} h => ?_
      refine (ltN_app rfl).mpr (.inr ⟨rfl, (ltN_cons x y [] []).mpr (.inl h)⟩)
    · refine List.Pairwise.imp_of_mem (fun {s t} hs ht h => ?_) (allS_pw p a)
      intro x hx y hy
      obtain ⟨q, _, rfl⟩ := List.mem_map.mp hx
      obtain ⟨r, _, rfl⟩ := List.mem_map.mp hy
      exact (ltN_app (by rw [allS_len hs, allS_len ht])).mpr (.inl h)
def frames : List (Nat × Nat) := (List.range' 1 4).flatMap fun a => (List.range' 2 7).map fun p => (a, p)
theorem frames_mem {a p : Nat} (h : FOk a p) : (a, p) ∈ frames := by
  obtain ⟨h1, h2⟩ := h
  exact List.mem_flatMap.mpr ⟨a, by rw [List.mem_range'_1]; omega, List.mem_map.mpr ⟨p, by rw [List.mem_range'_1]; omega, rfl⟩⟩
theorem fits_sign_ok {a p : Nat} {s : List Nat} (h : FOk a p) (hs : s ∈ allS p a) (cp : Cup) : m_fits_sign [Fm a p, NT s] cp = .ok (.bool true) cp := by
  obtain ⟨h1, h2⟩ := mem_allS.mp hs
  refine wp_of ?_
  unfold m_fits_sign
  repeat walk_at "w"
  refine w_eq (is_tuple_any (lay_NT s).1 _) ?_
  have e : tupD (a : Int) (a : Int) (NT s) = true := by
    show (decide ((a : Int) ≤ (s.map _).length) && decide (((s.map _).length : Int) ≤ a)) = true
    rw [List.length_map, h1, decide_eq_true (Int.le_refl _)]
    rfl
  rw [e]
  repeat walk_at "w"
  refine w_eq (lcGo_mapA (l := s) (ee := fun _ => .bool true) fun q hq => ⟨_, rfl, fun cp => wp_of ?_⟩) ?_
  · repeat walk_at "w"
    refine w_eq (fits_whole_any rfl _) ?_
    refine ⟨?_, rfl⟩
    have hq := h2 q hq
    have e : wholeD 0 ((p : Int) - 1) (.int q) = true := by
      show (decide ((0 : Int) ≤ q) && decide ((q : Int) ≤ (p : Int) - 1)) = true
      rw [decide_eq_true (by omega), decide_eq_true (by omega)]
      rfl
    rw [e]
  repeat walk_at "w"
  exact ⟨_, bAll_map (fun _ => true) s, by rw [List.all_eq_true.mpr fun _ _ => rfl], rfl⟩
theorem law_sign_ok {a p : Nat} (h : FOk a p) (cp : Cup) : Wp (m_law_sign [Fm a p] cp) fun d _ => ∃ s, d = NT s ∧ s ∈ allS p a := by
  unfold m_law_sign
  repeat walk_at "w"
  refine ⟨by simp [okR]; have := h.1.2; omega, okLen_of (by have := h.1.2; omega), ?_⟩
  rw [show ((a : Int)).toNat = a from rfl]
  refine w_ex (lcGo_inv (I := fun dn out => ∃ s : List Nat, out = s.map (fun q : Nat => (.int (q : Int) : D)) ∧ s.length = dn.length ∧ ∀ q ∈ s, q < p) (ds0 := rangeL 0 a) ?_ _ [] [] _ rfl ⟨[], rfl, rfl, fun q hq => by cases hq⟩) ?_
  · rintro dn d r out cp1 e ⟨s, rfl, hl, hs⟩
    refine ⟨_, rfl, ?_⟩
    refine w_c ?_
    refine ⟨true, rfl, fun _ => ?_, fun z => by cases z⟩
    repeat walk_at "w"
    refine w_ex (rollOk _ (by have := h.2.1; omega) (by have := h.2.2; omega) _) ?_
    rintro d2 c2 ⟨x, rfl, x0, x1⟩
    obtain ⟨q, rfl⟩ : ∃ q : Nat, x = (q : Int) := ⟨x.toNat, by omega⟩
    refine ⟨s ++ [q], by rw [List.map_append]; rfl, by rw [List.length_append, List.length_append, hl]; rfl, fun y hy => ?_⟩
    rcases List.mem_append.mp hy with hy | hy
    · exact hs y hy
    · obtain rfl := List.mem_singleton.mp hy
      omega
  · rintro ys c2 ⟨s, e, hl, hs⟩
    have e : ys = s.map (fun q : Nat => (.int (q : Int) : D)) := e
    subst e
    have hl : s.length = a := by
      rw [hl]
      unfold rangeL
      rw [List.length_map, List.length_range]
    repeat walk_at "w"
    exact mem_allS.mpr ⟨hl, hs⟩
theorem ne_nil_of {a p : Nat} (h : FOk a p) {s : List Nat} (hs : s ∈ allS p a) : s ≠ [] := fun z => by
  have := allS_len hs
  rw [z] at this
  have := h.1.1
  simp at *
  omega
end L_k14
namespace L_k14
open PySem MP MP.SI
local macro_rules | `(tactic| walk_at "w") => `(tactic| first
  | with_reducible refine w_seq ?_
  | with_reducible refine w_set ?_
  | with_reducible refine w_ret ?_
  | with_reducible refine w_cons ?_
  | with_reducible refine w_nil ?_
  | with_reducible refine w_c ?_
  | ((with_reducible refine' w_nm ?hnm ?_); (case hnm => exact rfl))
  | with_reducible refine w_bin ?_
  | with_reducible refine w_b ?_
  | with_reducible refine w_not ?_
  | with_reducible refine w_and ?_
  | with_reducible refine w_or ?_
  | with_reducible refine w_if ?_
  | with_reducible refine w_sif ?_
  | with_reducible refine w_chn ?_
  | with_reducible refine w_call ?_
  | with_reducible refine w_ca ?_
  | with_reducible refine w_tup ?_
  | with_reducible refine w_lst ?_
  | with_reducible refine w_isi ?_
  | with_reducible refine w_drop ?_
  | with_reducible refine w_snil ?_
  | with_reducible refine w_par ?_
  | with_reducible refine w_asg ?_
  | with_reducible refine w_for ?_
  | with_reducible refine w_lc ?_
  | with_reducible refine w_it ?_
  | with_reducible refine w_zip ?_
  | with_reducible refine w_enum ?_
  | with_reducible refine w_sl2 ?_
  | with_reducible refine w_eoN ?_
  | with_reducible refine w_eoS ?_
  | with_reducible refine w_me ?_
  | with_reducible refine w_rev ?_
  | ((with_reducible refine' w_app ?hap ?_); (case hap => exact rfl))
  | ((with_reducible refine' w_augI ?hap ?_); (case hap => exact rfl))
  | with_reducible refine w_rg1 ?_
  | with_reducible refine w_rg2 ?_
  | with_reducible refine w_scup ?_
  | with_reducible refine w_cup ?_
  | with_reducible refine w_neg ?_
  | with_reducible refine w_mean ?_
  | with_reducible refine ⟨_, dLt_ii, ?_⟩
  | with_reducible refine ⟨_, dGt_ii, ?_⟩
  | with_reducible refine ⟨_, dLe_ii, ?_⟩
  | with_reducible refine ⟨_, dGe_ii, ?_⟩
  | with_reducible refine ⟨_, dEq_ii, ?_⟩
  | with_reducible refine ⟨_, dNe_ii, ?_⟩
  | with_reducible refine ⟨_, dLe_ii, fun _ => ?_, fun _ => ?_⟩
  | with_reducible refine ⟨_, dLt_ii, fun _ => ?_, fun _ => ?_⟩
  | with_reducible refine ⟨_, dAdd_ii, ?_⟩
  | with_reducible refine ⟨_, dSub_ii, ?_⟩
  | with_reducible refine ⟨_, isi_int_int, ?_⟩
  | with_reducible refine ⟨_, isi_int_bool, ?_⟩
  | with_reducible refine ⟨_, isi_int_str, ?_⟩
  | with_reducible refine ⟨_, isi_int_tuple, ?_⟩
  | with_reducible refine ⟨_, isi_tuple_int, ?_⟩
  | with_reducible refine ⟨_, isi_tuple_bool, ?_⟩
  | with_reducible refine ⟨_, isi_tuple_str, ?_⟩
  | with_reducible refine ⟨_, isi_tuple_tuple, ?_⟩
  | with_reducible refine ⟨_, isi_str_int, ?_⟩
  | with_reducible refine ⟨_, isi_str_bool, ?_⟩
  | with_reducible refine ⟨_, isi_str_str, ?_⟩
  | with_reducible refine ⟨_, isi_str_tuple, ?_⟩
  | with_reducible refine ⟨_, isi_bool_int, ?_⟩
  | with_reducible refine ⟨_, isi_bool_bool, ?_⟩
  | with_reducible refine ⟨_, isi_bool_str, ?_⟩
  | with_reducible refine ⟨_, isi_bool_tuple, ?_⟩
  | with_reducible refine ⟨_, isi_none_int, ?_⟩
  | with_reducible refine ⟨_, isi_none_bool, ?_⟩
  | with_reducible refine ⟨_, isi_none_str, ?_⟩
  | with_reducible refine ⟨_, isi_none_tuple, ?_⟩
  | with_reducible refine ⟨_, isi_list_int, ?_⟩
  | with_reducible refine ⟨_, isi_list_bool, ?_⟩
  | with_reducible refine ⟨_, isi_list_str, ?_⟩
  | with_reducible refine ⟨_, isi_list_tuple, ?_⟩
  | with_reducible refine ⟨true, rfl, fun _ => ?_, fun h => absurd h (by decide)⟩
  | with_reducible refine ⟨false, rfl, fun h => absurd h (by decide), fun _ => ?_⟩
  | (fail_if_success with_reducible refine mul_shape ?_); (fail_if_success with_reducible refine mul2_shape ?_); with_reducible refine ⟨_, rfl, fun hb => ?_, fun hb => ?_⟩
  | (fail_if_success with_reducible refine mul_shape ?_); (fail_if_success with_reducible refine mul2_shape ?_); with_reducible refine ⟨_, rfl, ?_⟩
  | with_reducible refine ⟨fun hb => ?_, fun hb => ?_⟩
  | with_reducible exact ⟨rfl, rfl⟩
  | with_reducible refine ⟨(rfl : isLst _ = true), ?_⟩)
/-! turns -/
def fwd (p x y : Nat) : Nat := (y + p - x) % p
def bwd (p x y : Nat) : Nat := (x + p - y) % p
def stepN (p x y : Nat) : Nat := min (fwd p x y) (bwd p x y)
def T (p : Nat) (s t : List Nat) : Nat := ((s.zip t).map fun q => stepN p q.1 q.2).sum
theorem fw_all : ((List.range 9).all fun p => (List.range p).all fun x => (List.range p).all fun y => (List.range (fwd p x y + 1)).all fun k => decide ((x + k) % p = y) == decide (k = fwd p x y)) = true := by decide +kernel
theorem bw_all : ((List.range 9).all fun p => (List.range p).all fun x => (List.range p).all fun y => (List.range (bwd p x y + 1)).all fun k => decide (((x : Int) - (k : Int)) % (p : Int) = (y : Int)) == decide (k = bwd p x y)) = true := by decide +kernel
theorem fw_fact {p x y k : Nat} (hp : p ≤ 8) (hx : x < p) (hy : y < p) (hk : k ≤ fwd p x y) : (x + k) % p = y ↔ k = fwd p x y := by
  have h := List.all_eq_true.mp (List.all_eq_true.mp (List.all_eq_true.mp (List.all_eq_true.mp fw_all p (List.mem_range.mpr (by omega))) x (List.mem_range.mpr hx)) y (List.mem_range.mpr hy)) k (List.mem_range.mpr (by omega))
  have h := eq_of_beq h
  exact ⟨fun z => by rw [decide_eq_true z] at h; exact of_decide_eq_true h.symm, fun z => by rw [decide_eq_true z] at h; exact of_decide_eq_true h⟩
theorem bw_fact {p x y k : Nat} (hp : p ≤ 8) (hx : x < p) (hy : y < p) (hk : k ≤ bwd p x y) : ((x : Int) - (k : Int)) % (p : Int) = (y : Int) ↔ k = bwd p x y := by
  have h := List.all_eq_true.mp (List.all_eq_true.mp (List.all_eq_true.mp (List.all_eq_true.mp bw_all p (List.mem_range.mpr (by omega))) x (List.mem_range.mpr hx)) y (List.mem_range.mpr hy)) k (List.mem_range.mpr (by omega))
  have h := eq_of_beq h
  exact ⟨fun z => by rw [decide_eq_true z] at h; exact of_decide_eq_true h.symm, fun z => by rw [decide_eq_true z] at h; exact of_decide_eq_true h⟩
theorem fwd_lt {p x y : Nat} (hp : 0 < p) : fwd p x y < p := Nat.mod_lt _ hp
theorem bwd_lt {p x y : Nat} (hp : 0 < p) : bwd p x y < p := Nat.mod_lt _ hp
/-! step_between -/
theorem st_all : ((List.range 9).all fun p => (List.range p).all fun x => (List.range p).all fun y => decide (min (if (x : Int) - (y : Int) < 0 then -((x : Int) - (y : Int)) else (x : Int) - (y : Int)) ((p : Int) - if (x : Int) - (y : Int) < 0 then -((x : Int) - (y : Int)) else (x : Int) - (y : Int)) = (stepN p x y : Int))) = true := by decide +kernel
theorem st_fact {p x y : Nat} (hp : p ≤ 8) (hx : x < p) (hy : y < p) : min (if (x : Int) - (y : Int) < 0 then -((x : Int) - (y : Int)) else (x : Int) - (y : Int)) ((p : Int) - if (x : Int) - (y : Int) < 0 then -((x : Int) - (y : Int)) else (x : Int) - (y : Int)) = (stepN p x y : Int) :=
  of_decide_eq_true (List.all_eq_true.mp (List.all_eq_true.mp (List.all_eq_true.mp st_all p (List.mem_range.mpr (by omega))) x (List.mem_range.mpr hx)) y (List.mem_range.mpr hy))
theorem step_between_ok {a p x y : Nat} (h : FOk a p) (hx : x < p) (hy : y < p) (cp : Cup) : m_step_between [Fm a p, .int x, .int y] cp = .ok (.int (stepN p x y)) cp := by
  refine wp_of ?_
  unfold m_step_between
  repeat walk_at "w"
  exact ⟨congrArg PyData.int (st_fact h.2.2 hx hy), rfl⟩
theorem zip_NT (s t : List Nat) : zipL (s.map fun q : Nat => (.int q : D)) (t.map fun q : Nat => (.int q : D)) = (s.zip t).map fun q : Nat × Nat => (.tuple [.int q.1, .int q.2] : D) := by
  unfold zipL
  rw [List.zip_map, List.map_map]
  rfl
theorem zip_lt {a p : Nat} {s t : List Nat} (hs : s ∈ allS p a) (ht : t ∈ allS p a) : ∀ q ∈ s.zip t, q.1 < p ∧ q.2 < p := fun q hq =>
  ⟨(mem_allS.mp hs).2 _ (List.of_mem_zip hq).1, (mem_allS.mp ht).2 _ (List.of_mem_zip hq).2⟩
theorem sum_ints (l : List Nat) : (l.map fun n : Nat => (n : Int)).sum = ((l.sum : Nat) : Int) := by
  induction l with
  | nil => rfl
  | cons x l ih => rw [List.map_cons, List.sum_cons, List.sum_cons, ih, Int.natCast_add]
theorem intsOf_map (l : List Nat) : intsOf (l.map fun n : Nat => (.int n : D)) = some (l.map fun n : Nat => (n : Int)) := by
  induction l with
  | nil => rfl
  | cons x l ih =>
    rw [List.map_cons, intsOf, ih]
    rfl
theorem turns_in_ok {a p : Nat} {s t : List Nat} (h : FOk a p) (hs : s ∈ allS p a) (ht : t ∈ allS p a) (cp : Cup) : m_turns_in [Fm a p, NT s, NT t] cp = .ok (.int (T p s t)) cp := by
  refine wp_of ?_
  unfold m_turns_in
  repeat walk_at "w"
  rw [zip_NT]
  refine w_eq (lcGo_mapA (l := s.zip t) (ee := fun q : Nat × Nat => (.int ((stepN p q.1 q.2 : Nat) : Int) : D)) fun q hq => ⟨_, rfl, fun cp => wp_of ?_⟩) ?_
  · repeat walk_at "w"
    refine w_eq (step_between_ok h (zip_lt hs ht q hq).1 (zip_lt hs ht q hq).2 _) ?_
    repeat walk_at "w"
  repeat walk_at "w"
  refine ⟨.int (T p s t), ?_, rfl, rfl⟩
  have e : ((s.zip t).map fun q => (.int (stepN p q.1 q.2 : Nat) : D)) = ((s.zip t).map fun q => stepN p q.1 q.2).map fun n : Nat => (.int n : D) := by rw [List.map_map]; rfl
  rw [e]
  show (intsOf _).map (fun bs => PyData.int bs.sum) = _
  rw [intsOf_map, Option.map_some, sum_ints]
  rfl
/-! the law's turns -/
def wF : Ev := (eB (eBin dNe (eBin dMod (eBin dAdd (eNm 4) (eNm 6)) (eBin dIx (eNm 0) (eC (.int 1)))) (eNm 5)))
def wFb : Sv := (sSet 6 (eBin dAdd (eNm 6) (eC (.int 1))))
def wB : Ev := (eB (eBin dNe (eBin dMod (eBin dSub (eNm 4) (eNm 7)) (eBin dIx (eNm 0) (eC (.int 1)))) (eNm 5)))
def wBb : Sv := (sSet 7 (eBin dAdd (eNm 7) (eC (.int 1))))
abbrev enT (a p : Nat) (s t tot : D) (x y f b : Nat) : MP.Env := [some (Fm a p), some s, some t, some tot, some (.int x), some (.int y), some (.int f), some (.int b)]
theorem fw_run {a p x y b : Nat} {s t tot : D} (h : FOk a p) (hx : x < p) (hy : y < p) : ∀ (n k : Nat) (cp : Cup), k ≤ fwd p x y → fwd p x y - k < n → whGo wF wFb n (enT a p s t tot x y k b) cp = .ok (.nx (enT a p s t tot x y (fwd p x y) b)) cp
  | 0, k, cp, _, hn => by omega
  | n + 1, k, cp, hk, hn => by
    have e1 : wF (enT a p s t tot x y k b) cp = .ok (.bool (!decide (k = fwd p x y))) cp := by
      refine wp_of ?_
      unfold wF enT
      repeat walk_at "w"
      refine ⟨_, dMod_ii (by have := h.2.1; omega), ?_⟩
      repeat walk_at "w"
      refine ⟨?_, rfl⟩
      congr 2
      have := fw_fact h.2.2 hx hy hk
      refine decide_eq_decide.mpr (Iff.trans ?_ this)
      rw [← Int.natCast_add, ← Int.natCast_emod]
      exact Int.ofNat_inj
    rw [whGo, e1]
    by_cases hk2 : k = fwd p x y
    · subst hk2
      rw [decide_eq_true rfl]
      rfl
    · rw [decide_eq_false hk2]
      have e2 : wFb (enT a p s t tot x y k b) cp = .ok (.nx (enT a p s t tot x y (k + 1) b)) cp := by
        refine wp_of ?_
        unfold wFb enT
        repeat walk_at "w"
      rw [Bool.not_false, Res.bind_ok]
      dsimp only
      rw [e2, Res.bind_ok]
      exact fw_run (b := b) (s := s) (t := t) (tot := tot) h hx hy n (k + 1) cp (by omega) (by omega)
theorem bw_run {a p x y f : Nat} {s t tot : D} (h : FOk a p) (hx : x < p) (hy : y < p) : ∀ (n k : Nat) (cp : Cup), k ≤ bwd p x y → bwd p x y - k < n → whGo wB wBb n (enT a p s t tot x y f k) cp = .ok (.nx (enT a p s t tot x y f (bwd p x y))) cp
  | 0, k, cp, _, hn => by omega
  | n + 1, k, cp, hk, hn => by
    have e1 : wB (enT a p s t tot x y f k) cp = .ok (.bool (!decide (k = bwd p x y))) cp := by
      refine wp_of ?_
      unfold wB enT
      repeat walk_at "w"
      refine ⟨_, dMod_ii (by have := h.2.1; omega), ?_⟩
      repeat walk_at "w"
      refine ⟨?_, rfl⟩
      congr 2
      have := bw_fact h.2.2 hx hy hk
      exact decide_eq_decide.mpr this
    rw [whGo, e1]
    by_cases hk2 : k = bwd p x y
    · subst hk2
      rw [decide_eq_true rfl]
      rfl
    · rw [decide_eq_false hk2]
      have e2 : wBb (enT a p s t tot x y f k) cp = .ok (.nx (enT a p s t tot x y f (k + 1))) cp := by
        refine wp_of ?_
        unfold wBb enT
        repeat walk_at "w"
      rw [Bool.not_false, Res.bind_ok]
      dsimp only
      rw [e2, Res.bind_ok]
      exact bw_run (f := f) (s := s) (t := t) (tot := tot) h hx hy n (k + 1) cp (by omega) (by omega)

theorem law_turns_ok {a p : Nat} {s t : List Nat} (h : FOk a p) (hs : s ∈ allS p a) (ht : t ∈ allS p a) (cp : Cup) : m_law_turns [Fm a p, NT s, NT t] cp = .ok (.int (T p s t)) cp := by
  refine wp_of ?_
  unfold m_law_turns
  repeat walk_at "w"
  rw [zip_NT]
  refine forGo_map (l := s.zip t) (I := fun ps r env c => c = cp ∧ ∃ (z4 z5 z6 z7 : Option D), env = [some (Fm a p), some (NT s), some (NT t), some (.int ((ps.map fun q => stepN p q.1 q.2).sum : Nat)), z4, z5, z6, z7]) ?_ ?_ _ [] _ _ rfl ⟨rfl, none, none, none, none, rfl⟩
  · rintro ps q r env c e ⟨rfl, z4, z5, z6, z7, rfl⟩
    have hq : q ∈ s.zip t := by rw [e]; simp
    obtain ⟨hx, hy⟩ := zip_lt hs ht q hq
    refine ⟨_, rfl, ?_⟩
    repeat walk_at "w"
    have hp : 0 < p := by have := h.2.1; omega
    refine w_eq (show sWhile wF wFb (enT a p (NT s) (NT t) (.int ((ps.map fun q => stepN p q.1 q.2).sum : Nat)) q.1 q.2 (0 : Nat) (0 : Nat)) c = _ from fw_run h hx hy fuel 0 c (Nat.zero_le _) (by have := fwd_lt (x := q.1) (y := q.2) hp; have := h.2.2; unfold fuel; omega)) ?_
    repeat walk_at "w"
    refine w_eq (show sWhile wB wBb (enT a p (NT s) (NT t) (.int ((ps.map fun q => stepN p q.1 q.2).sum : Nat)) q.1 q.2 (fwd p q.1 q.2) (0 : Nat)) c = _ from bw_run h hx hy fuel 0 c (Nat.zero_le _) (by have := bwd_lt (x := q.1) (y := q.2) hp; have := h.2.2; unfold fuel; omega)) ?_
    repeat walk_at "w"
    refine ⟨rfl, some (.int q.1), some (.int q.2), some (.int (fwd p q.1 q.2 : Nat)), some (.int (bwd p q.1 q.2 : Nat)), ?_⟩
    generalize hA : (ps.map fun q => stepN p q.1 q.2).sum = A
    have e1 : ((ps ++ [q]).map fun q => stepN p q.1 q.2).sum = A + min (fwd p q.1 q.2) (bwd p q.1 q.2) := by rw [List.map_append, List.sum_append, hA, List.map_cons, List.map_nil, List.sum_cons, List.sum_nil]; rfl
    have e2 : ((A : Nat) : Int) + min ((fwd p q.1 q.2 : Nat) : Int) ((bwd p q.1 q.2 : Nat) : Int) = ((A + min (fwd p q.1 q.2) (bwd p q.1 q.2) : Nat) : Int) := by omega
    rw [e1, e2]
    rfl
  · rintro env c ⟨rfl, z4, z5, z6, z7, rfl⟩
    repeat walk_at "w"
theorem need_sign_ok {a p : Nat} {s : List Nat} (h : FOk a p) (hs : s ∈ allS p a) (cp : Cup) : m_need_sign [Fm a p, NT s] cp = .ok .none cp := by
  refine wp_of ?_
  unfold m_need_sign
  repeat walk_at "w"
  refine w_eq (fits_sign_ok h hs _) ?_
  repeat walk_at "w"
theorem turns_between_ok {a p : Nat} {s t : List Nat} (h : FOk a p) (hs : s ∈ allS p a) (ht : t ∈ allS p a) (cp : Cup) : m_turns_between [Fm a p, NT s, NT t] cp = .ok (.int (T p s t)) cp := by
  refine wp_of ?_
  unfold m_turns_between
  repeat walk_at "w"
  refine w_eq (need_frame_ok h _) ?_
  repeat walk_at "w"
  refine w_eq (need_sign_ok h hs _) ?_
  repeat walk_at "w"
  refine w_eq (need_sign_ok h ht _) ?_
  repeat walk_at "w"
  refine w_eq (turns_in_ok h hs ht _) ?_
  repeat walk_at "w"
theorem from_behind_ok {a p : Nat} {s : List Nat} (h : FOk a p) (hs : s ∈ allS p a) (cp : Cup) : m_from_behind [Fm a p, NT s] cp = .ok (NT (bh p s)) cp := by
  refine wp_of ?_
  unfold m_from_behind
  repeat walk_at "w"
  refine w_eq (need_frame_ok h _) ?_
  repeat walk_at "w"
  refine w_eq (need_sign_ok h hs _) ?_
  repeat walk_at "w"
  refine w_eq (behind_ok h hs _) ?_
  repeat walk_at "w"
/-! what turns do -/
theorem stepN_symm (p x y : Nat) : stepN p x y = stepN p y x := Nat.min_comm _ _
theorem T_symm (p : Nat) : ∀ s t : List Nat, T p s t = T p t s
  | [], [] => rfl
  | [], _ :: _ => rfl
  | _ :: _, [] => rfl
  | x :: s, y :: t => by
    have ih := T_symm p s t
    unfold T at *
    rw [List.zip_cons_cons, List.zip_cons_cons, List.map_cons, List.map_cons, List.sum_cons, List.sum_cons, ih, stepN_symm]
theorem T_cons (p x y : Nat) (s t : List Nat) : T p (x :: s) (y :: t) = stepN p x y + T p s t := by
  unfold T
  rw [List.zip_cons_cons, List.map_cons, List.sum_cons]
theorem T_app (p : Nat) : ∀ {s t s2 t2 : List Nat}, s.length = t.length → T p (s ++ s2) (t ++ t2) = T p s t + T p s2 t2
  | [], [], _, _, _ => by rw [List.nil_append, List.nil_append]; show _ = 0 + _; omega
  | [], _ :: _, _, _, h => by cases h
  | _ :: _, [], _, _, h => by cases h
  | x :: s, y :: t, s2, t2, h => by
    rw [List.cons_append, List.cons_append, T_cons, T_cons, T_app p (by simpa using h)]
    omega
theorem T_self (p : Nat) : ∀ s : List Nat, T p s s = 0
  | [] => rfl
  | x :: s => by
    rw [T_cons, T_self p s]
    unfold stepN fwd bwd
    rw [Nat.add_sub_cancel_left, Nat.mod_self]
    rfl
theorem inv_all : ((List.range 9).all fun p => (List.range p).all fun x => (List.range p).all fun y => decide (stepN p ((p - x) % p) ((p - y) % p) = stepN p x y)) = true := by decide +kernel
theorem tri_all : ((List.range 9).all fun p => (List.range p).all fun x => (List.range p).all fun y => (List.range p).all fun z => decide (stepN p x z ≤ stepN p x y + stepN p y z)) = true := by decide +kernel
theorem one_all : ((List.range 9).all fun p => Nat.ble p 1 || (List.range p).all fun x => (List.range p).all fun q => decide (stepN p x q = 1) == (decide (q = (x + 1) % p) || decide (q = (x + p - 1) % p))) = true := by decide +kernel
theorem inv_fact {p x y : Nat} (hp : p ≤ 8) (hx : x < p) (hy : y < p) : stepN p ((p - x) % p) ((p - y) % p) = stepN p x y :=
  of_decide_eq_true (List.all_eq_true.mp (List.all_eq_true.mp (List.all_eq_true.mp inv_all p (List.mem_range.mpr (by omega))) x (List.mem_range.mpr hx)) y (List.mem_range.mpr hy))
theorem tri_fact {p x y z : Nat} (hp : p ≤ 8) (hx : x < p) (hy : y < p) (hz : z < p) : stepN p x z ≤ stepN p x y + stepN p y z :=
  of_decide_eq_true (List.all_eq_true.mp (List.all_eq_true.mp (List.all_eq_true.mp (List.all_eq_true.mp tri_all p (List.mem_range.mpr (by omega))) x (List.mem_range.mpr hx)) y (List.mem_range.mpr hy)) z (List.mem_range.mpr hz))
theorem one_fact {p x q : Nat} (hp : p ≤ 8) (h2 : 2 ≤ p) (hx : x < p) (hq : q < p) : stepN p x q = 1 ↔ q = (x + 1) % p ∨ q = (x + p - 1) % p := by
  have h := List.all_eq_true.mp one_all p (List.mem_range.mpr (by omega))
  rw [Bool.or_eq_true] at h
  rcases h with h | h
  · have := Nat.le_of_ble_eq_true h
    omega
  have h := eq_of_beq (List.all_eq_true.mp (List.all_eq_true.mp h x (List.mem_range.mpr hx)) q (List.mem_range.mpr hq))
  rw [← decide_eq_true_iff (p := stepN p x q = 1), h, Bool.or_eq_true, decide_eq_true_iff, decide_eq_true_iff]
theorem T_bh {p : Nat} (hp : p ≤ 8) : ∀ {s t : List Nat}, s.length = t.length → (∀ q ∈ s, q < p) → (∀ q ∈ t, q < p) → T p (bh p s) (bh p t) = T p s t
  | [], [], _, _, _ => rfl
  | [], _ :: _, h, _, _ => by cases h
  | _ :: _, [], h, _, _ => by cases h
  | x :: s, y :: t, h, h1, h2 => by
    have ih := T_bh hp (s := s) (t := t) (by simpa using h) (fun q hq => h1 q (List.mem_cons_of_mem _ hq)) fun q hq => h2 q (List.mem_cons_of_mem _ hq)
    have e : ∀ (x : Nat) (s : List Nat), bh p (x :: s) = bh p s ++ [(p - x) % p] := fun x s => by
      unfold bh
      rw [List.reverse_cons, List.map_append]
      rfl
    rw [e, e, T_app p (by unfold bh; rw [List.length_map, List.length_map, List.length_reverse, List.length_reverse]; simpa using h), ih, T_cons, T_cons, inv_fact hp (h1 x List.mem_cons_self) (h2 y List.mem_cons_self)]
    show _ + (_ + 0) = _
    omega
theorem T_tri {p : Nat} (hp : p ≤ 8) : ∀ {s u t : List Nat}, s.length = u.length → u.length = t.length → (∀ q ∈ s, q < p) → (∀ q ∈ u, q < p) → (∀ q ∈ t, q < p) → T p s t ≤ T p s u + T p u t
  | [], [], [], _, _, _, _, _ => Nat.le_refl _
  | [], [], _ :: _, _, h, _, _, _ => by cases h
  | [], _ :: _, _, h, _, _, _, _ => by cases h
  | _ :: _, [], _, h, _, _, _, _ => by cases h
  | _ :: _, _ :: _, [], _, h, _, _, _ => by cases h
  | x :: s, y :: u, z :: t, h, h', h1, h2, h3 => by
    have ih := T_tri hp (s := s) (u := u) (t := t) (by simpa using h) (by simpa using h') (fun q hq => h1 q (List.mem_cons_of_mem _ hq)) (fun q hq => h2 q (List.mem_cons_of_mem _ hq)) fun q hq => h3 q (List.mem_cons_of_mem _ hq)
    have := tri_fact hp (h1 x List.mem_cons_self) (h2 y List.mem_cons_self) (h3 z List.mem_cons_self)
    rw [T_cons, T_cons, T_cons]
    omega
theorem T_set (p : Nat) : ∀ (s : List Nat) (i q x : Nat), s[i]? = some x → T p s (s.set i q) = stepN p x q
  | [], i, q, x, h => by cases h
  | y :: s, 0, q, x, h => by
    cases h
    rw [List.set_cons_zero, T_cons, T_self]
    rfl
  | y :: s, i + 1, q, x, h => by
    rw [List.set_cons_succ, T_cons, T_set p s i q x (by simpa using h)]
    have := T_self p [y]
    rw [T_cons] at this
    have e : T p [] [] = 0 := rfl
    omega
end L_k14
namespace L_k14
open PySem MP MP.SI
local macro_rules | `(tactic| walk_at "w") => `(tactic| first
  | with_reducible refine w_seq ?_
  | with_reducible refine w_set ?_
  | with_reducible refine w_ret ?_
  | with_reducible refine w_cons ?_
  | with_reducible refine w_nil ?_
  | with_reducible refine w_c ?_
  | ((with_reducible refine' w_nm ?hnm ?_); (case hnm => exact rfl))
  | with_reducible refine w_bin ?_
  | with_reducible refine w_b ?_
  | with_reducible refine w_not ?_
  | with_reducible refine w_and ?_
  | with_reducible refine w_or ?_
  | with_reducible refine w_if ?_
  | with_reducible refine w_sif ?_
  | with_reducible refine w_chn ?_
  | with_reducible refine w_call ?_
  | with_reducible refine w_ca ?_
  | with_reducible refine w_tup ?_
  | with_reducible refine w_lst ?_
  | with_reducible refine w_isi ?_
  | with_reducible refine w_drop ?_
  | with_reducible refine w_snil ?_
  | with_reducible refine w_par ?_
  | with_reducible refine w_asg ?_
  | with_reducible refine w_for ?_
  | with_reducible refine w_lc ?_
  | with_reducible refine w_it ?_
  | with_reducible refine w_zip ?_
  | with_reducible refine w_enum ?_
  | with_reducible refine w_sl2 ?_
  | with_reducible refine w_eoN ?_
  | with_reducible refine w_eoS ?_
  | with_reducible refine w_me ?_
  | with_reducible refine w_rev ?_
  | ((with_reducible refine' w_app ?hap ?_); (case hap => exact rfl))
  | ((with_reducible refine' w_augI ?hap ?_); (case hap => exact rfl))
  | with_reducible refine w_rg1 ?_
  | with_reducible refine w_rg2 ?_
  | with_reducible refine w_scup ?_
  | with_reducible refine w_cup ?_
  | with_reducible refine w_neg ?_
  | with_reducible refine w_mean ?_
  | with_reducible refine ⟨_, dLt_ii, ?_⟩
  | with_reducible refine ⟨_, dGt_ii, ?_⟩
  | with_reducible refine ⟨_, dLe_ii, ?_⟩
  | with_reducible refine ⟨_, dGe_ii, ?_⟩
  | with_reducible refine ⟨_, dEq_ii, ?_⟩
  | with_reducible refine ⟨_, dNe_ii, ?_⟩
  | with_reducible refine ⟨_, dLe_ii, fun _ => ?_, fun _ => ?_⟩
  | with_reducible refine ⟨_, dLt_ii, fun _ => ?_, fun _ => ?_⟩
  | with_reducible refine ⟨_, dAdd_ii, ?_⟩
  | with_reducible refine ⟨_, dSub_ii, ?_⟩
  | with_reducible refine ⟨_, isi_int_int, ?_⟩
  | with_reducible refine ⟨_, isi_int_bool, ?_⟩
  | with_reducible refine ⟨_, isi_int_str, ?_⟩
  | with_reducible refine ⟨_, isi_int_tuple, ?_⟩
  | with_reducible refine ⟨_, isi_tuple_int, ?_⟩
  | with_reducible refine ⟨_, isi_tuple_bool, ?_⟩
  | with_reducible refine ⟨_, isi_tuple_str, ?_⟩
  | with_reducible refine ⟨_, isi_tuple_tuple, ?_⟩
  | with_reducible refine ⟨_, isi_str_int, ?_⟩
  | with_reducible refine ⟨_, isi_str_bool, ?_⟩
  | with_reducible refine ⟨_, isi_str_str, ?_⟩
  | with_reducible refine ⟨_, isi_str_tuple, ?_⟩
  | with_reducible refine ⟨_, isi_bool_int, ?_⟩
  | with_reducible refine ⟨_, isi_bool_bool, ?_⟩
  | with_reducible refine ⟨_, isi_bool_str, ?_⟩
  | with_reducible refine ⟨_, isi_bool_tuple, ?_⟩
  | with_reducible refine ⟨_, isi_none_int, ?_⟩
  | with_reducible refine ⟨_, isi_none_bool, ?_⟩
  | with_reducible refine ⟨_, isi_none_str, ?_⟩
  | with_reducible refine ⟨_, isi_none_tuple, ?_⟩
  | with_reducible refine ⟨_, isi_list_int, ?_⟩
  | with_reducible refine ⟨_, isi_list_bool, ?_⟩
  | with_reducible refine ⟨_, isi_list_str, ?_⟩
  | with_reducible refine ⟨_, isi_list_tuple, ?_⟩
  | with_reducible refine ⟨true, rfl, fun _ => ?_, fun h => absurd h (by decide)⟩
  | with_reducible refine ⟨false, rfl, fun h => absurd h (by decide), fun _ => ?_⟩
  | (fail_if_success with_reducible refine mul_shape ?_); (fail_if_success with_reducible refine mul2_shape ?_); with_reducible refine ⟨_, rfl, fun hb => ?_, fun hb => ?_⟩
  | (fail_if_success with_reducible refine mul_shape ?_); (fail_if_success with_reducible refine mul2_shape ?_); with_reducible refine ⟨_, rfl, ?_⟩
  | with_reducible refine ⟨fun hb => ?_, fun hb => ?_⟩
  | with_reducible exact ⟨rfl, rfl⟩
  | with_reducible refine ⟨(rfl : isLst _ = true), ?_⟩)
/-! signs with one arm turned -/
theorem sl_to (s : List Nat) (i : Nat) : dSl (NT s) none (some (i : Int)) = some (NT (s.take i)) := by
  show some (PyData.tuple (cutL (s.map fun p : Nat => (.int p : D)) none (some (i : Int)))) = _
  rw [cut_to, ← List.map_take]
theorem sl_from (s : List Nat) (i : Nat) : dSl (NT s) (some (i : Int)) none = some (NT (s.drop i)) := by
  show some (PyData.tuple (cutL (s.map fun p : Nat => (.int p : D)) (some (i : Int)) none)) = _
  rw [cut_drop, ← List.map_drop]
theorem enum_nats (s : List Nat) : enumL (s.map fun q : Nat => (.int q : D)) = (List.range s.length).map fun i : Nat => (.tuple [.int i, .int (s.getD i 0)] : D) := by
  unfold enumL
  apply List.ext_getElem?
  intro i
  rw [List.getElem?_mapIdx, List.getElem?_map, List.getElem?_map]
  by_cases h : i < s.length
  · have e : s.getD i 0 = s[i] := by rw [List.getD_eq_getElem?_getD, List.getElem?_eq_getElem h]; rfl
    rw [List.getElem?_eq_getElem h, List.getElem?_range h]
    show some (PyData.tuple [.int i, .int (s[i] : Nat)]) = some (PyData.tuple [.int i, .int (s.getD i 0 : Nat)])
    rw [e]
  · rw [List.getElem?_eq_none (by omega), List.getElem?_eq_none (by rw [List.length_range]; omega)]
    rfl
theorem set_mem {a p : Nat} {s : List Nat} (i : Nat) {q : Nat} (hs : s ∈ allS p a) (hq : q < p) : s.set i q ∈ allS p a := by
  obtain ⟨h1, h2⟩ := mem_allS.mp hs
  refine mem_allS.mpr ⟨by rw [List.length_set]; exact h1, fun x hx => ?_⟩
  rcases List.mem_or_eq_of_mem_set hx with h | h
  · exact h2 x h
  · exact h ▸ hq
/-- the steps, forth and back -/
abbrev turnQ (p x : Nat) : Bool → Nat := fun b => if b then (x + 1) % p else (x + p - 1) % p
abbrev stI (b : Bool) : Int := if b then 1 else -1
theorem turn_all : ((List.range 9).all fun p => Nat.ble p 1 || (List.range p).all fun x => [true, false].all fun b => decide (((x : Int) + stI b) % (p : Int) = (turnQ p x b : Int))) = true := by decide +kernel
theorem turn_fact {p x : Nat} (hp : p ≤ 8) (h2 : 2 ≤ p) (hx : x < p) (b : Bool) : ((x : Int) + stI b) % (p : Int) = (turnQ p x b : Int) := by
  have h := List.all_eq_true.mp turn_all p (List.mem_range.mpr (by omega))
  rw [Bool.or_eq_true] at h
  rcases h with h | h
  · have := Nat.le_of_ble_eq_true h
    omega
  exact of_decide_eq_true (List.all_eq_true.mp (List.all_eq_true.mp h x (List.mem_range.mpr hx)) b (by cases b <;> simp))
theorem turnQ_lt {p x : Nat} (hp : 0 < p) (b : Bool) : turnQ p x b < p := by
  cases b <;> exact Nat.mod_lt _ hp
def nextR (p : Nat) (s : List Nat) (i : Nat) (bs : List Bool) : List (List Nat) := bs.map fun b => s.set i (turnQ p (s.getD i 0) b)
def nextL (p : Nat) (s : List Nat) (is : List Nat) : List (List Nat) := is.flatMap fun i => nextR p s i [true, false]
theorem nextR_len (p : Nat) (s : List Nat) (i : Nat) (bs : List Bool) : (nextR p s i bs).length = bs.length := List.length_map _
theorem nextL_len (p : Nat) (s : List Nat) : ∀ is : List Nat, (nextL p s is).length = 2 * is.length
  | [] => rfl
  | i :: is => by
    have ih := nextL_len p s is
    unfold nextL at *
    have e : (i :: is).length = is.length + 1 := rfl
    rw [List.flatMap_cons, List.length_append, ih, nextR_len, e]
    show 2 + _ = _
    omega
theorem nextL_rows {a p : Nat} {s : List Nat} (hs : s ∈ allS p a) (hp : 0 < p) (is : List Nat) : ∀ r ∈ nextL p s is, r ∈ allS p a := fun r hr => by
  obtain ⟨i, hi, h⟩ := List.mem_flatMap.mp hr
  obtain ⟨b, hb, rfl⟩ := List.mem_map.mp h
  exact set_mem i hs (turnQ_lt hp b)
theorem getD_mem {s : List Nat} {i : Nat} (h : i < s.length) : s.getD i 0 ∈ s := by
  rw [List.getD_eq_getElem?_getD, List.getElem?_eq_getElem h]
  exact List.getElem_mem h
theorem next_signs_ok {a p : Nat} {s : List Nat} (h : FOk a p) (hs : s ∈ allS p a) (cp : Cup) : m_next_signs [Fm a p, NT s] cp = .ok (NTT (srtU (nextL p s (List.range a)))) cp := by
  obtain ⟨hl, hlt⟩ := mem_allS.mp hs
  have hp : 0 < p := by have := h.2.1; omega
  refine wp_of ?_
  unfold m_next_signs
  repeat walk_at "w"
  refine w_eq (need_frame_ok h _) ?_
  repeat walk_at "w"
  refine w_eq (need_sign_ok h hs _) ?_
  repeat walk_at "w"
  rw [enum_nats, hl]
  refine forGo_map (l := List.range a) (I := fun ps r env c => c = cp ∧ ∃ (z3 z4 z5 : Option D), env = [some (Fm a p), some (NT s), some (.list ((nextL p s ps).map NT)), z3, z4, z5]) ?_ ?_ _ [] _ _ rfl ⟨rfl, none, none, none, rfl⟩
  · rintro ps i r env c e ⟨rfl, z3, z4, z5, rfl⟩
    have hi : i < a := by
      have : i ∈ List.range a := by rw [e]; simp
      exact List.mem_range.mp this
    have hn : ps.length ≤ 4 := by
      have := congrArg List.length e
      rw [List.length_append, List.length_range] at this
      have := h.1.2
      omega
    refine ⟨_, rfl, ?_⟩
    repeat walk_at "w"
    show Wp (forGo _ _ ([true, false].map fun b => (.int (stI b) : D)) _ _) _
    have hx : s.getD i 0 < p := hlt _ (getD_mem (by omega))
    refine forGo_map (l := [true, false]) (I := fun bs r env c1 => c1 = c ∧ ∃ (z5 : Option D), env = [some (Fm a p), some (NT s), some (.list ((nextL p s ps ++ nextR p s i bs).map NT)), some (.int i), some (.int (s.getD i 0 : Nat)), z5]) ?_ ?_ _ [] _ _ rfl ⟨rfl, z5, by rw [show nextR p s i [] = [] from rfl, List.append_nil]; rfl⟩
    · rintro bs b r env c1 e ⟨rfl, z5, rfl⟩
      have hb : bs.length ≤ 2 := by
        have := congrArg List.length e
        rw [List.length_append] at this
        have h2 : [true, false].length = 2 := rfl
        omega
      refine ⟨_, rfl, ?_⟩
      repeat walk_at "w"
      have h8 := h.2.2
      have ha := h.1.2
      refine ⟨_, dMod_ii (by omega), ?_⟩
      rw [turn_fact h8 h.2.1 hx b]
      repeat walk_at "w"
      have e1 : dAdd (.tuple (cutL (s.map fun p : Nat => (.int p : D)) none (some (i : Int)))) (.tuple [.int (turnQ p (s.getD i 0) b : Nat)]) = some (NT (s.take i ++ [turnQ p (s.getD i 0) b])) := by
        rw [cut_to, ← List.map_take]
        exact add_NT (s := s.take i) (t := [turnQ p (s.getD i 0) b]) (by rw [List.length_take]; show _ + 1 ≤ _; omega)
      refine ⟨_, e1, ?_⟩
      repeat walk_at "w"
      have e2 : dAdd (NT (s.take i ++ [turnQ p (s.getD i 0) b])) (.tuple (cutL (s.map fun p : Nat => (.int p : D)) (some ((i : Int) + 1)) none)) = some (NT (s.set i (turnQ p (s.getD i 0) b))) := by
        rw [show ((i : Int) + 1) = ((i + 1 : Nat) : Int) from rfl, cut_drop, ← List.map_drop, ← set_cut _ (by omega)]
        exact add_NT (by rw [List.length_append, List.length_take, List.length_drop]; show _ + 1 + _ ≤ _; omega)
      refine ⟨_, e2, ?_, ?_⟩
      · rw [List.length_map, List.length_append, nextL_len, nextR_len]
        omega
      · refine ⟨rfl, some (.int (stI b)), ?_⟩
        have e3 : nextR p s i (bs ++ [b]) = nextR p s i bs ++ [s.set i (turnQ p (s.getD i 0) b)] := by
          unfold nextR
          rw [List.map_append]
          rfl
        rw [e3, ← List.append_assoc, List.map_append (f := NT) (l₂ := [_])]
        rfl
    · rintro env c1 ⟨rfl, z5, rfl⟩
      refine ⟨rfl, some (.int i), some (.int (s.getD i 0 : Nat)), z5, ?_⟩
      have e1 : nextL p s (ps ++ [i]) = nextL p s ps ++ nextR p s i [true, false] := by
        unfold nextL
        rw [List.flatMap_append, List.flatMap_cons, List.flatMap_nil, List.append_nil]
      rw [e1]
  · rintro env c ⟨rfl, z3, z4, z5, rfl⟩
    repeat walk_at "w"
    have hok : rowsOk (nextL p s (List.range a)) = true := by
      have hr := nextL_rows hs hp (List.range a)
      have h8 := h.2.2
      unfold rowsOk
      rw [Bool.and_eq_true, Bool.and_eq_true, decide_eq_true_iff, decide_eq_true_iff, nextL_len, List.length_range]
      have hh : ((nextL p s (List.range a)).headD [0]).length = a := by
        cases e : nextL p s (List.range a) with
        | nil =>
          have := nextL_len p s (List.range a)
          rw [e, List.length_range] at this
          have h1 := h.1.1
          have : ([] : List (List Nat)).length = 0 := rfl
          omega
        | cons x l => exact (mem_allS.mp (hr x (by rw [e]; simp))).1
      rw [hh]
      have h1 := h.1
      refine ⟨by omega, by omega, List.all_eq_true.mpr fun r hm => ?_⟩
      obtain ⟨k1, k2⟩ := mem_allS.mp (hr r hm)
      rw [Bool.and_eq_true, decide_eq_true_iff]
      refine ⟨k1, List.all_eq_true.mpr fun n hn => ?_⟩
      have := k2 n hn
      exact decide_eq_true (by omega)
    refine ⟨_, bSS_NT hok, ?_⟩
    repeat walk_at "w"
end L_k14
namespace L_k14
open PySem MP MP.SI
local macro_rules | `(tactic| walk_at "w") => `(tactic| first
  | with_reducible refine w_seq ?_
  | with_reducible refine w_set ?_
  | with_reducible refine w_ret ?_
  | with_reducible refine w_cons ?_
  | with_reducible refine w_nil ?_
  | with_reducible refine w_c ?_
  | ((with_reducible refine' w_nm ?hnm ?_); (case hnm => exact rfl))
  | with_reducible refine w_bin ?_
  | with_reducible refine w_b ?_
  | with_reducible refine w_not ?_
  | with_reducible refine w_and ?_
  | with_reducible refine w_or ?_
  | with_reducible refine w_if ?_
  | with_reducible refine w_sif ?_
  | with_reducible refine w_chn ?_
  | with_reducible refine w_call ?_
  | with_reducible refine w_ca ?_
  | with_reducible refine w_tup ?_
  | with_reducible refine w_lst ?_
  | with_reducible refine w_isi ?_
  | with_reducible refine w_drop ?_
  | with_reducible refine w_snil ?_
  | with_reducible refine w_par ?_
  | with_reducible refine w_asg ?_
  | with_reducible refine w_for ?_
  | with_reducible refine w_lc ?_
  | with_reducible refine w_it ?_
  | with_reducible refine w_zip ?_
  | with_reducible refine w_enum ?_
  | with_reducible refine w_sl2 ?_
  | with_reducible refine w_eoN ?_
  | with_reducible refine w_eoS ?_
  | with_reducible refine w_me ?_
  | with_reducible refine w_rev ?_
  | ((with_reducible refine' w_app ?hap ?_); (case hap => exact rfl))
  | ((with_reducible refine' w_augI ?hap ?_); (case hap => exact rfl))
  | with_reducible refine w_rg1 ?_
  | with_reducible refine w_rg2 ?_
  | with_reducible refine w_scup ?_
  | with_reducible refine w_cup ?_
  | with_reducible refine w_neg ?_
  | with_reducible refine w_mean ?_
  | with_reducible refine ⟨_, dLt_ii, ?_⟩
  | with_reducible refine ⟨_, dGt_ii, ?_⟩
  | with_reducible refine ⟨_, dLe_ii, ?_⟩
  | with_reducible refine ⟨_, dGe_ii, ?_⟩
  | with_reducible refine ⟨_, dEq_ii, ?_⟩
  | with_reducible refine ⟨_, dNe_ii, ?_⟩
  | with_reducible refine ⟨_, dLe_ii, fun _ => ?_, fun _ => ?_⟩
  | with_reducible refine ⟨_, dLt_ii, fun _ => ?_, fun _ => ?_⟩
  | with_reducible refine ⟨_, dAdd_ii, ?_⟩
  | with_reducible refine ⟨_, dSub_ii, ?_⟩
  | with_reducible refine ⟨_, isi_int_int, ?_⟩
  | with_reducible refine ⟨_, isi_int_bool, ?_⟩
  | with_reducible refine ⟨_, isi_int_str, ?_⟩
  | with_reducible refine ⟨_, isi_int_tuple, ?_⟩
  | with_reducible refine ⟨_, isi_tuple_int, ?_⟩
  | with_reducible refine ⟨_, isi_tuple_bool, ?_⟩
  | with_reducible refine ⟨_, isi_tuple_str, ?_⟩
  | with_reducible refine ⟨_, isi_tuple_tuple, ?_⟩
  | with_reducible refine ⟨_, isi_str_int, ?_⟩
  | with_reducible refine ⟨_, isi_str_bool, ?_⟩
  | with_reducible refine ⟨_, isi_str_str, ?_⟩
  | with_reducible refine ⟨_, isi_str_tuple, ?_⟩
  | with_reducible refine ⟨_, isi_bool_int, ?_⟩
  | with_reducible refine ⟨_, isi_bool_bool, ?_⟩
  | with_reducible refine ⟨_, isi_bool_str, ?_⟩
  | with_reducible refine ⟨_, isi_bool_tuple, ?_⟩
  | with_reducible refine ⟨_, isi_none_int, ?_⟩
  | with_reducible refine ⟨_, isi_none_bool, ?_⟩
  | with_reducible refine ⟨_, isi_none_str, ?_⟩
  | with_reducible refine ⟨_, isi_none_tuple, ?_⟩
  | with_reducible refine ⟨_, isi_list_int, ?_⟩
  | with_reducible refine ⟨_, isi_list_bool, ?_⟩
  | with_reducible refine ⟨_, isi_list_str, ?_⟩
  | with_reducible refine ⟨_, isi_list_tuple, ?_⟩
  | with_reducible refine ⟨true, rfl, fun _ => ?_, fun h => absurd h (by decide)⟩
  | with_reducible refine ⟨false, rfl, fun h => absurd h (by decide), fun _ => ?_⟩
  | (fail_if_success with_reducible refine mul_shape ?_); (fail_if_success with_reducible refine mul2_shape ?_); with_reducible refine ⟨_, rfl, fun hb => ?_, fun hb => ?_⟩
  | (fail_if_success with_reducible refine mul_shape ?_); (fail_if_success with_reducible refine mul2_shape ?_); with_reducible refine ⟨_, rfl, ?_⟩
  | with_reducible refine ⟨fun hb => ?_, fun hb => ?_⟩
  | with_reducible exact ⟨rfl, rfl⟩
  | with_reducible refine ⟨(rfl : isLst _ = true), ?_⟩)
/-! the law's part on turns -/
theorem near_same {a p : Nat} {s : List Nat} {l : List (List Nat)} (h : FOk a p) (hs : s ∈ allS p a) (hl : ∀ x, x ∈ l ↔ ∃ i ∈ List.range a, ∃ q ∈ List.range p, T p s (s.set i q) = 1 ∧ x = s.set i q) : srtU l = srtU (nextL p s (List.range a)) := by
  obtain ⟨k1, k2⟩ := mem_allS.mp hs
  have hp : 0 < p := by have := h.2.1; omega
  refine srtU_congr fun x => ?_
  rw [hl]
  unfold nextL
  rw [List.mem_flatMap]
  refine exists_congr fun i => and_congr_right fun hi => ?_
  have hi := List.mem_range.mp hi
  have hx : s.getD i 0 < p := k2 _ (getD_mem (by omega))
  have hg : s[i]? = some (s.getD i 0) := by
    rw [List.getD_eq_getElem?_getD, List.getElem?_eq_getElem (by omega)]
    rfl
  unfold nextR
  rw [List.mem_map]
  refine ⟨fun ⟨q, hq, h1, e⟩ => ?_, fun ⟨b, hb, e⟩ => ?_⟩
  · rw [T_set p s i q _ hg, one_fact h.2.2 h.2.1 hx (List.mem_range.mp hq)] at h1
    rcases h1 with z | z
    · exact ⟨true, by simp, by rw [e, z]; rfl⟩
    · exact ⟨false, by simp, by rw [e, z]; rfl⟩
  · refine ⟨turnQ p (s.getD i 0) b, List.mem_range.mpr (turnQ_lt hp b), ?_, e.symm⟩
    rw [T_set p s i _ _ hg, one_fact h.2.2 h.2.1 hx (turnQ_lt hp b)]
    cases b
    · exact .inr rfl
    · exact .inl rfl
theorem gd_t3 {k : Nat} {a b c : D} (h : gd k a) (h2 : gd k b) (h3 : gd k c) : gd (k + 1) (.tuple [a, b, c]) := by
  refine ⟨(by show 3 ≤ 16777216; decide), fun d hd => ?_⟩
  rcases List.mem_cons.mp hd with z | hd
  · exact z ▸ h
  rcases List.mem_cons.mp hd with z | hd
  · exact z ▸ h2
  rcases List.mem_cons.mp hd with z | hd
  · exact z ▸ h3
  · cases hd
/-- the places that are found -/
def Found (p : Nat) (s : List Nat) (is : List Nat) (x : List Nat) : Prop := ∃ i ∈ is, ∃ q ∈ List.range p, T p s (s.set i q) = 1 ∧ x = s.set i q
def FoundR (p : Nat) (s : List Nat) (i : Nat) (qs : List Nat) (x : List Nat) : Prop := ∃ q ∈ qs, T p s (s.set i q) = 1 ∧ x = s.set i q
theorem Found.snoc {p : Nat} {s is x : List Nat} {i : Nat} : Found p s (is ++ [i]) x ↔ Found p s is x ∨ FoundR p s i (List.range p) x := by
  unfold Found FoundR
  constructor
  · rintro ⟨j, hj, r⟩
    rcases List.mem_append.mp hj with hj | hj
    · exact .inl ⟨j, hj, r⟩
    · rw [List.mem_singleton] at hj
      exact .inr (hj ▸ r)
  · rintro (⟨j, hj, r⟩ | r)
    · exact ⟨j, List.mem_append_left _ hj, r⟩
    · exact ⟨i, by simp, r⟩
theorem FoundR.snoc {p : Nat} {s qs x : List Nat} {i q : Nat} : FoundR p s i (qs ++ [q]) x ↔ FoundR p s i qs x ∨ (T p s (s.set i q) = 1 ∧ x = s.set i q) := by
  unfold FoundR
  constructor
  · rintro ⟨j, hj, r⟩
    rcases List.mem_append.mp hj with hj | hj
    · exact .inl ⟨j, hj, r⟩
    · rw [List.mem_singleton] at hj
      exact .inr (hj ▸ r)
  · rintro (⟨j, hj, r⟩ | r)
    · exact ⟨j, List.mem_append_left _ hj, r⟩
    · exact ⟨q, by simp, r⟩
theorem turns_right (cp : Cup) : Wp (m_law_turns_right [] cp) fun d _ => d = .bool true := by
  unfold m_law_turns_right
  repeat walk_at "w"
  refine w_ex (law_frame_ok (most := 4096) (by omega) _) ?_
  rintro d c1 ⟨a, p, rfl, h, h5⟩
  repeat walk_at "w"
  refine w_ex (law_sign_ok h _) ?_
  rintro d c2 ⟨s, rfl, hs⟩
  repeat walk_at "w"
  refine w_ex (law_sign_ok h _) ?_
  rintro d c3 ⟨t, rfl, ht⟩
  repeat walk_at "w"
  refine w_ex (law_sign_ok h _) ?_
  rintro d c4 ⟨u, rfl, hu⟩
  have hp : 0 < p := by have := h.2.1; omega
  obtain ⟨s1, s2⟩ := mem_allS.mp hs
  obtain ⟨t1, t2⟩ := mem_allS.mp ht
  obtain ⟨u1, u2⟩ := mem_allS.mp hu
  repeat walk_at "w"
  refine w_eq (law_turns_ok h hs ht _) ?_
  repeat walk_at "w"
  refine w_eq (from_behind_ok h hs _) ?_
  repeat walk_at "w"
  refine w_eq (from_behind_ok h ht _) ?_
  repeat walk_at "w"
  refine w_eq (turns_between_ok h (bh_mem hp hs) (bh_mem hp ht) _) ?_
  rw [T_bh h.2.2 (s1.trans t1.symm) s2 t2]
  repeat walk_at "w"
  refine w_eq (turns_between_ok h hs ht _) ?_
  repeat walk_at "w"
  refine w_eq (turns_between_ok h ht hs _) ?_
  rw [T_symm p t s]
  repeat walk_at "w"
  refine same_w (n := 8) (e := .tuple [.int (T p s t), .int (T p s t), .int (T p s t)]) (gd_t3 (k := 7) trivial trivial trivial) rfl ?_
  repeat walk_at "w"
  refine w_eq (law_turns_ok h hs hu _) ?_
  repeat walk_at "w"
  refine w_eq (law_turns_ok h hu ht _) ?_
  repeat walk_at "w"
  · rename_i hb
    have := T_tri h.2.2 (s1.trans u1.symm) (u1.trans t1.symm) s2 u2 t2
    have hb := of_decide_eq_true hb
    omega
  repeat walk_at "w"
  have ha := h.1.2
  refine ⟨by simp [okR]; omega, okLen_of (by omega), ?_⟩
  rw [show ((a : Int)).toNat = a from rfl, rangeL0]
  refine forGo_map (l := List.range a) (I := fun ps r env c => c = c4 ∧ ∃ (l : List (List Nat)) (z5 z6 z7 z9 z10 z11 : Option D), env = [none, some (Fm a p), some (NT s), some (NT t), some (NT u), z5, z6, z7, some (.dict (kvT l)), z9, z10, z11] ∧ l.Nodup ∧ l.length ≤ 8 * ps.length ∧ ∀ x, x ∈ l ↔ Found p s ps x) ?_ ?_ _ [] _ _ rfl ⟨rfl, [], _, _, _, _, _, _, rfl, List.nodup_nil, Nat.zero_le _, fun x => ⟨fun z => by (cases z), fun ⟨i, hi, _⟩ => by (cases hi)⟩⟩
  · rintro ps i r env c e ⟨rfl, l, z5, z6, z7, z9, z10, z11, rfl, nd, hl, hm⟩
    have hi : i < a := by
      have : i ∈ List.range a := by rw [e]; simp
      exact List.mem_range.mp this
    have hn : ps.length ≤ 4 := by
      have := congrArg List.length e
      rw [List.length_append, List.length_range] at this
      omega
    refine ⟨_, rfl, ?_⟩
    repeat walk_at "w"
    have h8 := h.2.2
    refine ⟨by simp [okR]; omega, okLen_of (by omega), ?_⟩
    rw [show ((p : Int)).toNat = p from rfl, rangeL0]
    refine forGo_map (l := List.range p) (I := fun qs r env c1 => c1 = c ∧ ∃ (l : List (List Nat)) (z10 z11 : Option D), env = [none, some (Fm a p), some (NT s), some (NT t), some (NT u), z5, z6, z7, some (.dict (kvT l)), some (.int i), z10, z11] ∧ l.Nodup ∧ l.length ≤ 8 * ps.length + qs.length ∧ ∀ x, x ∈ l ↔ Found p s ps x ∨ FoundR p s i qs x) ?_ ?_ _ [] _ _ rfl ⟨rfl, l, _, _, rfl, nd, hl, fun x => by rw [hm]; exact ⟨.inl, fun q => q.elim id fun ⟨_, z, _⟩ => by (cases z)⟩⟩
    · rintro qs q r2 env c1 e2 ⟨rfl, l, z10, z11, rfl, nd, hl, hm⟩
      have hq : q < p := by
        have : q ∈ List.range p := by rw [e2]; simp
        exact List.mem_range.mp this
      have hqs : qs.length ≤ 8 := by
        have := congrArg List.length e2
        rw [List.length_append, List.length_range] at this
        omega
      refine ⟨_, rfl, ?_⟩
      repeat walk_at "w"
      refine ⟨_, put1_NT i q (by omega), ?_⟩
      repeat walk_at "w"
      refine ⟨_, put2_NT q (by omega) (by omega), ?_⟩
      have hset := set_mem i hs hq
      repeat walk_at "w"
      refine w_eq (law_turns_ok h hs hset _) ?_
      repeat walk_at "w"
      · rename_i hb
        have hb := of_decide_eq_true hb
        refine w_put rfl rfl ?_
        repeat walk_at "w"
        refine ⟨_, put_NT l (s.set i q) (by omega), ?_⟩
        refine ⟨rfl, addL l (s.set i q), some (.int q), some (NT (s.set i q)), rfl, addL_nodup nd, ?_, fun x => ?_⟩
        · have := addL_len l (s.set i q)
          rw [List.length_append]
          show _ ≤ _ + (_ + 1)
          omega
        · rw [addL_mem, hm, FoundR.snoc]
          have h1 : T p s (s.set i q) = 1 := by omega
          simp only [h1, true_and, or_assoc]
      repeat walk_at "w"
      rename_i hb
      have hb := of_decide_eq_false hb
      refine ⟨rfl, l, some (.int q), some (NT (s.set i q)), rfl, nd, ?_, fun x => ?_⟩
      · rw [List.length_append]
        omega
      · rw [hm, FoundR.snoc]
        have h1 : ¬ T p s (s.set i q) = 1 := by omega
        simp only [h1, false_and, or_false]
    · rintro env c1 ⟨rfl, l, z10, z11, rfl, nd, hl, hm⟩
      refine ⟨rfl, l, z5, z6, z7, some (.int i), z10, z11, rfl, nd, ?_, fun x => by rw [hm, Found.snoc]⟩
      rw [List.length_range] at hl
      rw [List.length_append]
      show _ ≤ 8 * (_ + 1)
      omega
  · rintro env c ⟨rfl, l, z5, z6, z7, z9, z10, z11, rfl, nd, hl, hm⟩
    repeat walk_at "w"
    refine w_eq (next_signs_ok h hs _) ?_
    repeat walk_at "w"
    have hrow : ∀ x ∈ l, x ∈ allS p a := fun x hx => by
      obtain ⟨i, hi, q, hq, _, rfl⟩ := (hm x).mp hx
      exact set_mem i hs (List.mem_range.mp hq)
    refine ⟨_, sorted4_NT (fun x hx => ne_nil_of h (hrow x hx)) nd, ?_⟩
    rw [near_same h hs hm]
    repeat walk_at "w"
    have hlen : ∀ l : List (List Nat), (srtU l).length ≤ l.length := fun l => by
      unfold srtU
      rw [(List.mergeSort_perm _ _).length_eq]
      have : ∀ l : List (List Nat), (ddL l).length ≤ l.length := by
        intro l
        induction l with
        | nil => exact Nat.le_refl _
        | cons x l ih =>
          unfold ddL
          split
          · exact Nat.le_succ_of_le ih
          · exact Nat.succ_le_succ ih
      exact this l
    refine same_w (gd_NTT (k := 5) ?_ fun x hx => ?_) rfl rfl
    · have := hlen (nextL p s (List.range a))
      rw [nextL_len, List.length_range] at this
      omega
    · have := (mem_allS.mp (nextL_rows hs hp _ x (srtU_mem.mp hx))).1
      omega
end L_k14
namespace L_k14
open PySem MP MP.SI
local macro_rules | `(tactic| walk_at "w") => `(tactic| first
  | with_reducible refine w_seq ?_
  | with_reducible refine w_set ?_
  | with_reducible refine w_ret ?_
  | with_reducible refine w_cons ?_
  | with_reducible refine w_nil ?_
  | with_reducible refine w_c ?_
  | ((with_reducible refine' w_nm ?hnm ?_); (case hnm => exact rfl))
  | with_reducible refine w_bin ?_
  | with_reducible refine w_b ?_
  | with_reducible refine w_not ?_
  | with_reducible refine w_and ?_
  | with_reducible refine w_or ?_
  | with_reducible refine w_if ?_
  | with_reducible refine w_sif ?_
  | with_reducible refine w_chn ?_
  | with_reducible refine w_call ?_
  | with_reducible refine w_ca ?_
  | with_reducible refine w_tup ?_
  | with_reducible refine w_lst ?_
  | with_reducible refine w_isi ?_
  | with_reducible refine w_drop ?_
  | with_reducible refine w_snil ?_
  | with_reducible refine w_par ?_
  | with_reducible refine w_asg ?_
  | with_reducible refine w_for ?_
  | with_reducible refine w_lc ?_
  | with_reducible refine w_it ?_
  | with_reducible refine w_zip ?_
  | with_reducible refine w_enum ?_
  | with_reducible refine w_sl2 ?_
  | with_reducible refine w_eoN ?_
  | with_reducible refine w_eoS ?_
  | with_reducible refine w_me ?_
  | with_reducible refine w_rev ?_
  | ((with_reducible refine' w_app ?hap ?_); (case hap => exact rfl))
  | ((with_reducible refine' w_augI ?hap ?_); (case hap => exact rfl))
  | with_reducible refine w_rg1 ?_
  | with_reducible refine w_rg2 ?_
  | with_reducible refine w_scup ?_
  | with_reducible refine w_cup ?_
  | with_reducible refine w_neg ?_
  | with_reducible refine w_mean ?_
  | with_reducible refine ⟨_, dLt_ii, ?_⟩
  | with_reducible refine ⟨_, dGt_ii, ?_⟩
  | with_reducible refine ⟨_, dLe_ii, ?_⟩
  | with_reducible refine ⟨_, dGe_ii, ?_⟩
  | with_reducible refine ⟨_, dEq_ii, ?_⟩
  | with_reducible refine ⟨_, dNe_ii, ?_⟩
  | with_reducible refine ⟨_, dLe_ii, fun _ => ?_, fun _ => ?_⟩
  | with_reducible refine ⟨_, dLt_ii, fun _ => ?_, fun _ => ?_⟩
  | with_reducible refine ⟨_, dAdd_ii, ?_⟩
  | with_reducible refine ⟨_, dSub_ii, ?_⟩
  | with_reducible refine ⟨_, isi_int_int, ?_⟩
  | with_reducible refine ⟨_, isi_int_bool, ?_⟩
  | with_reducible refine ⟨_, isi_int_str, ?_⟩
  | with_reducible refine ⟨_, isi_int_tuple, ?_⟩
  | with_reducible refine ⟨_, isi_tuple_int, ?_⟩
  | with_reducible refine ⟨_, isi_tuple_bool, ?_⟩
  | with_reducible refine ⟨_, isi_tuple_str, ?_⟩
  | with_reducible refine ⟨_, isi_tuple_tuple, ?_⟩
  | with_reducible refine ⟨_, isi_str_int, ?_⟩
  | with_reducible refine ⟨_, isi_str_bool, ?_⟩
  | with_reducible refine ⟨_, isi_str_str, ?_⟩
  | with_reducible refine ⟨_, isi_str_tuple, ?_⟩
  | with_reducible refine ⟨_, isi_bool_int, ?_⟩
  | with_reducible refine ⟨_, isi_bool_bool, ?_⟩
  | with_reducible refine ⟨_, isi_bool_str, ?_⟩
  | with_reducible refine ⟨_, isi_bool_tuple, ?_⟩
  | with_reducible refine ⟨_, isi_none_int, ?_⟩
  | with_reducible refine ⟨_, isi_none_bool, ?_⟩
  | with_reducible refine ⟨_, isi_none_str, ?_⟩
  | with_reducible refine ⟨_, isi_none_tuple, ?_⟩
  | with_reducible refine ⟨_, isi_list_int, ?_⟩
  | with_reducible refine ⟨_, isi_list_bool, ?_⟩
  | with_reducible refine ⟨_, isi_list_str, ?_⟩
  | with_reducible refine ⟨_, isi_list_tuple, ?_⟩
  | with_reducible refine ⟨true, rfl, fun _ => ?_, fun h => absurd h (by decide)⟩
  | with_reducible refine ⟨false, rfl, fun h => absurd h (by decide), fun _ => ?_⟩
  | (fail_if_success with_reducible refine mul_shape ?_); (fail_if_success with_reducible refine mul2_shape ?_); with_reducible refine ⟨_, rfl, fun hb => ?_, fun hb => ?_⟩
  | (fail_if_success with_reducible refine mul_shape ?_); (fail_if_success with_reducible refine mul2_shape ?_); with_reducible refine ⟨_, rfl, ?_⟩
  | with_reducible refine ⟨fun hb => ?_, fun hb => ?_⟩
  | with_reducible exact ⟨rfl, rfl⟩
  | with_reducible refine ⟨(rfl : isLst _ = true), ?_⟩)
/-! rows by single turns -/
def gray (p : Nat) : Nat → List (List Nat)
  | 0 => [[]]
  | n + 1 => (gray p n).zipIdx.flatMap fun x => (if x.2 % 2 = 0 then List.range p else (List.range p).reverse).map fun q => x.1 ++ [q]
def consec (p : Nat) (l : List (List Nat)) : Bool := (l.zip (l.drop 1)).all fun q => decide (T p q.1 q.2 = 1)
def grayB (f : Nat × Nat) : Bool := !Nat.ble (f.2 ^ f.1) 128 || ((gray f.2 f.1).isPerm (allS f.2 f.1) && consec f.2 (gray f.2 f.1))
theorem gray_all : (frames.all grayB) = true := by decide +kernel
theorem gray_len (p : Nat) : ∀ n : Nat, (gray p n).length = p ^ n
  | 0 => rfl
  | n + 1 => by
    have ih := gray_len p n
    have e : ∀ (l : List (List Nat × Nat)), (l.flatMap fun x => (if x.2 % 2 = 0 then List.range p else (List.range p).reverse).map fun q => x.1 ++ [q]).length = l.length * p := by
      intro l
      induction l with
      | nil => show 0 = 0 * p; omega
      | cons x l ih =>
        rw [List.flatMap_cons, List.length_append, ih, List.length_map, List.length_cons]
        have : (if x.2 % 2 = 0 then List.range p else (List.range p).reverse).length = p := by
          split
          · exact List.length_range
          · rw [List.length_reverse]; exact List.length_range
        rw [this, Nat.succ_mul]
        omega
    show ((gray p n).zipIdx.flatMap _).length = _
    rw [e, List.length_zipIdx, ih, Nat.pow_succ]
theorem gray_row (p : Nat) : ∀ n : Nat, ∀ s ∈ gray p n, s.length = n
  | 0, s, h => by rw [List.mem_singleton.mp h]; rfl
  | n + 1, s, h => by
    obtain ⟨x, hx, h⟩ := List.mem_flatMap.mp h
    obtain ⟨q, _, rfl⟩ := List.mem_map.mp h
    have : x.1 ∈ gray p n := by
      obtain ⟨y, i⟩ := x
      exact (List.mem_zipIdx' hx).2 ▸ List.getElem_mem _
    rw [List.length_append, gray_row p n _ this]
    rfl
theorem enum_NT (l : List (List Nat)) : enumL (l.map NT) = l.zipIdx.map fun x => (.tuple [.int (x.2 : Nat), NT x.1] : D) := by
  unfold enumL
  apply List.ext_getElem?
  intro i
  rw [List.getElem?_mapIdx, List.getElem?_map, List.getElem?_map, List.getElem?_zipIdx]
  cases l[i]? with
  | none => rfl
  | some x => simp
def grayR (p : Nat) (l : List (List Nat × Nat)) : List (List Nat) := l.flatMap fun x => (if x.2 % 2 = 0 then List.range p else (List.range p).reverse).map fun q => x.1 ++ [q]
theorem row_in_ok {a p : Nat} (h : FOk a p) (cp : Cup) : m_row_in [Fm a p] cp = .ok (.list ((gray p a).map NT)) cp := by
  have ha := h.1.2
  have hp8 := h.2.2
  refine wp_of ?_
  unfold m_row_in
  repeat walk_at "w"
  refine ⟨by simp [okR]; omega, okLen_of (by omega), ?_⟩
  rw [show ((a : Int)).toNat = a from rfl, rangeL0]
  refine forGo_map (l := List.range a) (I := fun ps r env c => c = cp ∧ ∃ z2 z3 z4 z5 z6 z7 : Option D, env = [some (Fm a p), some (.list ((gray p ps.length).map NT)), z2, z3, z4, z5, z6, z7]) ?_ ?_ _ [] _ _ rfl ⟨rfl, none, none, none, none, none, none, rfl⟩
  · rintro ps i r env c e ⟨rfl, z2, z3, z4, z5, z6, z7, rfl⟩
    have hl : ps.length < a := by
      have := congrArg List.length e
      rw [List.length_range, List.length_append, List.length_cons] at this
      omega
    refine ⟨_, rfl, ?_⟩
    repeat walk_at "w"
    rw [enum_NT]
    refine forGo_map (l := (gray p ps.length).zipIdx) (I := fun xs r env c1 => c1 = c ∧ ∃ z4 z5 z6 z7 : Option D, env = [some (Fm a p), some (.list ((gray p ps.length).map NT)), some (.int i), some (.list ((grayR p xs).map NT)), z4, z5, z6, z7]) ?_ ?_ _ [] _ _ rfl ⟨rfl, _, _, _, _, rfl⟩
    · rintro xs x r2 env c1 e2 ⟨rfl, z4, z5, z6, z7, rfl⟩
      refine ⟨_, rfl, ?_⟩
      repeat walk_at "w"
      refine ⟨by simp [okR]; omega, okLen_of (by omega), ?_⟩
      rw [show ((p : Int)).toNat = p from rfl, rangeL0]
      refine w_ext rfl ?_
      have hx : x.1.length = ps.length := gray_row p _ _ (by
        have : x ∈ (gray p ps.length).zipIdx := by rw [e2]; simp
        obtain ⟨y, j⟩ := x
        exact (List.mem_zipIdx' this).2 ▸ List.getElem_mem _)
      have hr : (grayR p xs).length ≤ 4096 * 8 := by
        have e : ∀ (l : List (List Nat × Nat)), (grayR p l).length = l.length * p := by
          intro l
          induction l with
          | nil => show 0 = 0 * p; omega
          | cons x l ih =>
            unfold grayR at *
            rw [List.flatMap_cons, List.length_append, ih, List.length_map, List.length_cons]
            have : (if x.2 % 2 = 0 then List.range p else (List.range p).reverse).length = p := by
              split
              · exact List.length_range
              · rw [List.length_reverse]; exact List.length_range
            rw [this, Nat.succ_mul]
            omega
        rw [e]
        have h1 : xs.length ≤ (gray p ps.length).length := by
          have := congrArg List.length e2
          rw [List.length_zipIdx, List.length_append] at this
          omega
        rw [gray_len] at h1
        have h2 := pow_le hp8 (show ps.length ≤ 4 by omega)
        exact Nat.mul_le_mul (by omega) hp8
      have fin : ∀ L : List Nat, L.length = p → (if x.2 % 2 = 0 then List.range p else (List.range p).reverse) = L → ∀ (env0 : MP.Env), env0[5]? = some (some (NT x.1)) → env0.length = 8 →
          lcGo (gNm 7) (eC (.bool true)) (eBin dAdd (eNm 5) (eTup (eCons (eNm 7) eNil))) env0 (L.map fun q : Nat => (.int q : D)) c1 = .ok ((L.map fun q => x.1 ++ [q]).map NT) c1 ∧ grayR p (xs ++ [x]) = grayR p xs ++ L.map fun q => x.1 ++ [q] := by
        intro L hL e3 env0 he hl0
        refine ⟨?_, ?_⟩
        · rw [lcGo_mapA (ee := fun q => NT (x.1 ++ [q])) fun q hq => ⟨_, rfl, fun cp => wp_of ?_⟩]
          · rw [List.map_map]
            rfl
          · refine w_bin ?_
            refine w_nm (by rw [List.getElem?_set_ne (by decide)]; exact he) ?_
            refine w_tup ?_
            refine w_cons ?_
            refine w_nm (by rw [List.getElem?_set_self (by omega)]) ?_
            refine w_nil ?_
            exact ⟨_, add_NT (s := x.1) (t := [q]) (by rw [hx]; show _ + 1 ≤ _; omega), rfl, rfl⟩
        · unfold grayR
          rw [List.flatMap_append, List.flatMap_cons, List.flatMap_nil, List.append_nil, e3]
      have fin2 : ∀ L : List Nat, L.length = p → (if x.2 % 2 = 0 then List.range p else (List.range p).reverse) = L → ∃ y4 y5 y6 y7 : Option D, ((([some (Fm a p), some (.list ((gray p ps.length).map NT)), some (.int i), some (.list ((grayR p xs).map NT)), z4, z5, z6, z7].set 4 (some (.int (x.2 : Nat)))).set 5 (some (NT x.1))).set 6 (some (.list ((List.range p).map fun i : Nat => (.int i : D))))).set 3 (some (.list ((grayR p xs).map NT ++ (L.map fun q => x.1 ++ [q]).map NT))) =
          [some (Fm a p), some (.list ((gray p ps.length).map NT)), some (.int i), some (.list ((grayR p (xs ++ [x])).map NT)), y4, y5, y6, y7] := fun L hL e3 => by
        refine ⟨some (.int (x.2 : Nat)), some (NT x.1), some (.list ((List.range p).map fun i : Nat => (.int i : D))), z7, ?_⟩
        rw [(fin L hL e3 [none, none, none, none, none, some (NT x.1), none, none] rfl rfl).2, List.map_append]
        rfl
      repeat walk_at "w"
      · rename_i hb
        have hb : x.2 % 2 = 0 := by
          have := of_decide_eq_true hb
          omega
        refine w_eq (fin (List.range p) List.length_range (if_pos hb) _ rfl rfl).1 ?_
        refine ⟨_, rfl, okLen_of (by rw [List.length_map, List.length_map, List.length_map, List.length_range]; omega), rfl, ?_⟩
        exact fin2 (List.range p) List.length_range (if_pos hb)
      · rename_i hb
        have hb : ¬ x.2 % 2 = 0 := by
          have := of_decide_eq_false hb
          omega
        refine w_rv ?_
        repeat walk_at "w"
        rw [← List.map_reverse]
        repeat walk_at "w"
        refine w_eq (fin (List.range p).reverse (by rw [List.length_reverse]; exact List.length_range) (if_neg hb) _ rfl rfl).1 ?_
        refine ⟨_, rfl, okLen_of (by rw [List.length_map, List.length_map, List.length_map, List.length_reverse, List.length_range]; omega), rfl, ?_⟩
        exact fin2 (List.range p).reverse (by rw [List.length_reverse]; exact List.length_range) (if_neg hb)
    · rintro env c1 ⟨rfl, z4, z5, z6, z7, rfl⟩
      repeat walk_at "w"
      refine ⟨rfl, some (.int i), some (.list ((gray p (ps.length + 1)).map NT)), z4, z5, z6, z7, ?_⟩
      rw [List.length_append]
      rfl
  · rintro env c ⟨rfl, z2, z3, z4, z5, z6, z7, rfl⟩
    rw [List.length_range]
    repeat walk_at "w"
end L_k14
namespace L_k14
open PySem MP MP.SI
local macro_rules | `(tactic| walk_at "w") => `(tactic| first
  | with_reducible refine w_seq ?_
  | with_reducible refine w_set ?_
  | with_reducible refine w_ret ?_
  | with_reducible refine w_cons ?_
  | with_reducible refine w_nil ?_
  | with_reducible refine w_c ?_
  | ((with_reducible refine' w_nm ?hnm ?_); (case hnm => exact rfl))
  | with_reducible refine w_bin ?_
  | with_reducible refine w_b ?_
  | with_reducible refine w_not ?_
  | with_reducible refine w_and ?_
  | with_reducible refine w_or ?_
  | with_reducible refine w_if ?_
  | with_reducible refine w_sif ?_
  | with_reducible refine w_chn ?_
  | with_reducible refine w_call ?_
  | with_reducible refine w_ca ?_
  | with_reducible refine w_tup ?_
  | with_reducible refine w_lst ?_
  | with_reducible refine w_isi ?_
  | with_reducible refine w_drop ?_
  | with_reducible refine w_snil ?_
  | with_reducible refine w_par ?_
  | with_reducible refine w_asg ?_
  | with_reducible refine w_for ?_
  | with_reducible refine w_lc ?_
  | with_reducible refine w_it ?_
  | with_reducible refine w_zip ?_
  | with_reducible refine w_enum ?_
  | with_reducible refine w_sl2 ?_
  | with_reducible refine w_eoN ?_
  | with_reducible refine w_eoS ?_
  | with_reducible refine w_me ?_
  | with_reducible refine w_rev ?_
  | ((with_reducible refine' w_app ?hap ?_); (case hap => exact rfl))
  | ((with_reducible refine' w_augI ?hap ?_); (case hap => exact rfl))
  | with_reducible refine w_rg1 ?_
  | with_reducible refine w_rg2 ?_
  | with_reducible refine w_scup ?_
  | with_reducible refine w_cup ?_
  | with_reducible refine w_neg ?_
  | with_reducible refine w_mean ?_
  | with_reducible refine ⟨_, dLt_ii, ?_⟩
  | with_reducible refine ⟨_, dGt_ii, ?_⟩
  | with_reducible refine ⟨_, dLe_ii, ?_⟩
  | with_reducible refine ⟨_, dGe_ii, ?_⟩
  | with_reducible refine ⟨_, dEq_ii, ?_⟩
  | with_reducible refine ⟨_, dNe_ii, ?_⟩
  | with_reducible refine ⟨_, dLe_ii, fun _ => ?_, fun _ => ?_⟩
  | with_reducible refine ⟨_, dLt_ii, fun _ => ?_, fun _ => ?_⟩
  | with_reducible refine ⟨_, dAdd_ii, ?_⟩
  | with_reducible refine ⟨_, dSub_ii, ?_⟩
  | with_reducible refine ⟨_, isi_int_int, ?_⟩
  | with_reducible refine ⟨_, isi_int_bool, ?_⟩
  | with_reducible refine ⟨_, isi_int_str, ?_⟩
  | with_reducible refine ⟨_, isi_int_tuple, ?_⟩
  | with_reducible refine ⟨_, isi_tuple_int, ?_⟩
  | with_reducible refine ⟨_, isi_tuple_bool, ?_⟩
  | with_reducible refine ⟨_, isi_tuple_str, ?_⟩
  | with_reducible refine ⟨_, isi_tuple_tuple, ?_⟩
  | with_reducible refine ⟨_, isi_str_int, ?_⟩
  | with_reducible refine ⟨_, isi_str_bool, ?_⟩
  | with_reducible refine ⟨_, isi_str_str, ?_⟩
  | with_reducible refine ⟨_, isi_str_tuple, ?_⟩
  | with_reducible refine ⟨_, isi_bool_int, ?_⟩
  | with_reducible refine ⟨_, isi_bool_bool, ?_⟩
  | with_reducible refine ⟨_, isi_bool_str, ?_⟩
  | with_reducible refine ⟨_, isi_bool_tuple, ?_⟩
  | with_reducible refine ⟨_, isi_none_int, ?_⟩
  | with_reducible refine ⟨_, isi_none_bool, ?_⟩
  | with_reducible refine ⟨_, isi_none_str, ?_⟩
  | with_reducible refine ⟨_, isi_none_tuple, ?_⟩
  | with_reducible refine ⟨_, isi_list_int, ?_⟩
  | with_reducible refine ⟨_, isi_list_bool, ?_⟩
  | with_reducible refine ⟨_, isi_list_str, ?_⟩
  | with_reducible refine ⟨_, isi_list_tuple, ?_⟩
  | with_reducible refine ⟨true, rfl, fun _ => ?_, fun h => absurd h (by decide)⟩
  | with_reducible refine ⟨false, rfl, fun h => absurd h (by decide), fun _ => ?_⟩
  | (fail_if_success with_reducible refine mul_shape ?_); (fail_if_success with_reducible refine mul2_shape ?_); with_reducible refine ⟨_, rfl, fun hb => ?_, fun hb => ?_⟩
  | (fail_if_success with_reducible refine mul_shape ?_); (fail_if_success with_reducible refine mul2_shape ?_); with_reducible refine ⟨_, rfl, ?_⟩
  | with_reducible refine ⟨fun hb => ?_, fun hb => ?_⟩
  | with_reducible exact ⟨rfl, rfl⟩
  | with_reducible refine ⟨(rfl : isLst _ = true), ?_⟩)
theorem one_step_ok {a p : Nat} (h : FOk a p) (h2 : p ^ a ≤ 512) (cp : Cup) : m_one_step_row [Fm a p] cp = .ok (.tuple ((gray p a).map NT)) cp := by
  refine wp_of ?_
  unfold m_one_step_row
  repeat walk_at "w"
  refine w_eq (listed_ok h h2 _) ?_
  repeat walk_at "w"
  refine w_eq (row_in_ok h _) ?_
  repeat walk_at "w"
/-! values that are signs, and others -/
def isPl (p : Nat) (d : D) : Bool := wholeD 0 ((p : Int) - 1) d
def isSg (a p : Nat) : D → Bool
  | .tuple ds => decide (ds.length = a) && ds.all (isPl p)
  | _ => false
def flat1 : D → Bool
  | .none => true
  | .bool _ => true
  | .int _ => true
  | .str x => PyData.strOk x
  | _ => false
/-- a value that may stand for a sign -/
def okE : D → Bool
  | .tuple xs => xs.all flat1
  | .list xs => xs.all flat1
  | .dict _ => false
  | .str x => PyData.strOk x
  | _ => true
theorem flat1_lay {d : D} (h : flat1 d = true) : d.canLay0 = true ∧ d.depth = 0 := by
  cases d with
  | none => exact ⟨rfl, rfl⟩
  | bool => exact ⟨rfl, rfl⟩
  | int => exact ⟨rfl, rfl⟩
  | str => exact ⟨h, rfl⟩
  | _ => cases h
theorem flats_lay : ∀ {l : List D}, (∀ d ∈ l, flat1 d = true) → PyData.canLayAll0 l = true ∧ PyData.depthAll l = 0
  | [], _ => ⟨rfl, rfl⟩
  | d :: l, h => by
    obtain ⟨h1, h2⟩ := flat1_lay (h d List.mem_cons_self)
    obtain ⟨h3, h4⟩ := flats_lay fun x hx => h x (List.mem_cons_of_mem _ hx)
    rw [PyData.canLayAll0, PyData.depthAll, h1, h2, h3, h4]
    exact ⟨rfl, rfl⟩
theorem shp_flats {l : List D} (h : ∀ d ∈ l, flat1 d = true) : shp (.list l) = true := by
  obtain ⟨h1, h2⟩ := flats_lay h
  unfold shp
  rw [PyData.canLay0, PyData.depth, h1, h2]
  rfl
theorem dNe_nil {l : List D} (h : ∀ d ∈ l, flat1 d = true) : dNe (.list l) (.list []) = some (.bool (!l.isEmpty)) := by
  unfold dNe
  rw [shp_flats h, show shp (.list []) = true from rfl]
  show some (PyData.bool (!PyData.eqvAll l [])) = _
  cases l with
  | nil => rfl
  | cons _ _ => rfl
theorem dEq_nil {l : List D} (h : ∀ d ∈ l, flat1 d = true) : dEq (.list l) (.list []) = some (.bool l.isEmpty) := by
  unfold dEq
  rw [shp_flats h, show shp (.list []) = true from rfl]
  show some (PyData.bool (PyData.eqvAll l [])) = _
  cases l with
  | nil => rfl
  | cons _ _ => rfl
theorem okE_lay {d : D} (h : okE d = true) : d.canLay0 = true := by
  cases d with
  | tuple xs =>
    have h : xs.all flat1 = true := h
    rw [PyData.canLay0]
    exact (flats_lay (List.all_eq_true.mp h)).1
  | list xs =>
    have h : xs.all flat1 = true := h
    rw [PyData.canLay0]
    exact (flats_lay (List.all_eq_true.mp h)).1
  | dict => cases h
  | str => exact h
  | _ => rfl
theorem isSg_row {a p : Nat} {d : D} (hp : 0 < p) (h : isSg a p d = true) : ∃ s ∈ allS p a, d = NT s := by
  cases d with
  | tuple ds =>
    have h : (decide (ds.length = a) && ds.all (isPl p)) = true := h
    rw [Bool.and_eq_true, decide_eq_true_iff] at h
    obtain ⟨h1, h2⟩ := h
    have key : ∀ {ds : List D}, (∀ d ∈ ds, isPl p d = true) → ∃ s : List Nat, ds = s.map (fun q : Nat => (.int q : D)) ∧ ∀ q ∈ s, q < p := by
      intro ds
      induction ds with
      | nil => exact fun _ => ⟨[], rfl, fun q hq => by cases hq⟩
      | cons d ds ih =>
        intro hd
        obtain ⟨s, rfl, hs⟩ := ih fun x hx => hd x (List.mem_cons_of_mem _ hx)
        have h0 := hd d List.mem_cons_self
        cases d with
        | int i =>
          have h0 : (decide (0 ≤ i) && decide (i ≤ (p : Int) - 1)) = true := h0
          rw [Bool.and_eq_true, decide_eq_true_iff, decide_eq_true_iff] at h0
          refine ⟨i.toNat :: s, ?_, fun q hq => ?_⟩
          · rw [List.map_cons]
            congr 2
            omega
          · rcases List.mem_cons.mp hq with z | z
            · omega
            · exact hs q z
        | _ => cases h0
    obtain ⟨s, rfl, hs⟩ := key (List.all_eq_true.mp h2)
    exact ⟨s, mem_allS.mpr ⟨by rw [← h1, List.length_map], hs⟩, rfl⟩
  | _ => cases h
theorem isPl_nat {p q : Nat} (h : q < p) : isPl p (.int q) = true := by
  show (decide ((0 : Int) ≤ q) && decide ((q : Int) ≤ (p : Int) - 1)) = true
  rw [decide_eq_true (by omega), decide_eq_true (by omega)]
  rfl
theorem isSg_NT {a p : Nat} {s : List Nat} (h : s ∈ allS p a) : isSg a p (NT s) = true := by
  obtain ⟨h1, h2⟩ := mem_allS.mp h
  show (decide ((s.map _).length = a) && (s.map _).all (isPl p)) = true
  rw [List.length_map, h1, decide_eq_true rfl, Bool.true_and, List.all_eq_true]
  intro d hd
  obtain ⟨q, hq, rfl⟩ := List.mem_map.mp hd
  exact isPl_nat (h2 q hq)
theorem fits_sign_any {a p : Nat} {d : D} (h : FOk a p) (k : okE d = true) (cp : Cup) : m_fits_sign [Fm a p, d] cp = .ok (.bool (isSg a p d)) cp := by
  refine wp_of ?_
  unfold m_fits_sign
  repeat walk_at "w"
  refine w_eq (is_tuple_any (okE_lay k) _) ?_
  repeat walk_at "w"
  · rename_i hb
    cases d with
    | tuple ds =>
      have k' : ∀ y ∈ ds, flat1 y = true := List.all_eq_true.mp k
      have hb : (decide ((a : Int) ≤ ds.length) && decide ((ds.length : Int) ≤ a)) = true := hb
      rw [Bool.and_eq_true, decide_eq_true_iff, decide_eq_true_iff] at hb
      have hl : ds.length = a := by omega
      refine ⟨ds, rfl, ?_⟩
      have e1 : ds = ds.map id := (List.map_id ds).symm
      have e2 : lcGo (gNm 2) (eC (.bool true)) (eCall m_fits_whole (eCons (eNm 2) (eCons (eC (.int 0)) (eCons (eBin dSub (eBin dIx (eNm 0) (eC (.int 1))) (eC (.int 1))) eNil)))) (wipeE (env0 false 3 [Fm a p, .tuple ds]) [2]) ds cp = .ok (ds.map fun y => .bool (isPl p y)) cp := by
        conv => lhs; rw [e1]
        refine lcGo_mapA (ee := fun y => .bool (isPl p y)) fun y hy => ⟨_, rfl, fun cp => wp_of ?_⟩
        repeat walk_at "w"
        refine w_eq (fits_whole_any (flat1_lay (k' y hy)).1 _) ?_
        repeat walk_at "w"
      refine w_eq e2 ?_
      repeat walk_at "w"
      refine ⟨_, bAll_map (isPl p) ds, ?_, rfl⟩
      show PyData.bool (ds.all (isPl p)) = PyData.bool (decide (ds.length = a) && ds.all (isPl p))
      rw [decide_eq_true hl, Bool.true_and]
    | _ => cases hb
  · rename_i hb
    refine ⟨?_, rfl⟩
    cases d with
    | tuple ds =>
      have hb : (decide ((a : Int) ≤ ds.length) && decide ((ds.length : Int) ≤ a)) = false := hb
      have : ¬ ds.length = a := fun z => by
        rw [decide_eq_true (by omega), decide_eq_true (by omega)] at hb
        cases hb
      show _ = PyData.bool (decide (ds.length = a) && ds.all (isPl p))
      rw [decide_eq_false this]
      rfl
    | _ => rfl
/-! values that are rows -/
def okV : D → Bool
  | .tuple ds => ds.all okE
  | d => d.canLay0
theorem okV_lay {d : D} (h : okV d = true) : d.canLay0 = true := by
  cases d with
  | tuple ds =>
    have h : ds.all okE = true := h
    rw [PyData.canLay0]
    have : ∀ {l : List D}, (∀ d ∈ l, okE d = true) → PyData.canLayAll0 l = true := by
      intro l
      induction l with
      | nil => exact fun _ => rfl
      | cons d l ih =>
        intro hd
        rw [PyData.canLayAll0, okE_lay (hd d List.mem_cons_self), ih fun x hx => hd x (List.mem_cons_of_mem _ hx)]
        rfl
    exact this (List.all_eq_true.mp h)
  | _ => exact h
def rowQ (a p : Nat) (l : List (List Nat)) : Bool := l.isPerm (allS p a) && consec p l
def rowV (a p : Nat) : D → Bool
  | .tuple ds => ds.all (isSg a p) && match rowsOf ds with
    | some l => rowQ a p l
    | none => false
  | _ => false
theorem sg_rows {a p : Nat} (hp : 0 < p) : ∀ {ds : List D}, ds.all (isSg a p) = true → ∃ l : List (List Nat), ds = l.map NT ∧ ∀ s ∈ l, s ∈ allS p a
  | [], _ => ⟨[], rfl, fun s hs => by cases hs⟩
  | d :: ds, h => by
    rw [List.all_cons, Bool.and_eq_true] at h
    obtain ⟨s, hs, rfl⟩ := isSg_row hp h.1
    obtain ⟨l, rfl, hl⟩ := sg_rows hp h.2
    exact ⟨s :: l, rfl, fun x hx => (List.mem_cons.mp hx).elim (fun z => z ▸ hs) (hl x)⟩
theorem rowV_rows {a p : Nat} {l : List (List Nat)} (h : ∀ s ∈ l, s ∈ allS p a) : rowV a p (.tuple (l.map NT)) = rowQ a p l := by
  have e : (l.map NT).all (isSg a p) = true := by
    rw [List.all_map, List.all_eq_true]
    exact fun s hs => isSg_NT (h s hs)
  show ((l.map NT).all (isSg a p) && match rowsOf (l.map NT) with
    | some l => rowQ a p l
    | none => false) = _
  rw [e, rowsOf_map]
  rfl
theorem rowV_not {a p : Nat} {ds : List D} {d : D} (h : d ∈ ds) (k : isSg a p d = false) : rowV a p (.tuple ds) = false := by
  have e : ds.all (isSg a p) = false := by
    rw [List.all_eq_false]
    exact ⟨d, h, by rw [k]; exact fun z => by cases z⟩
  show (ds.all (isSg a p) && _) = false
  rw [e]
  rfl
theorem zip1_NT (l : List (List Nat)) : zipL (l.map NT) ((l.map NT).drop 1) = (l.zip (l.drop 1)).map fun q : List Nat × List Nat => (.tuple [NT q.1, NT q.2] : D) := by
  unfold zipL
  rw [← List.map_drop, List.zip_map, List.map_map]
  rfl
theorem zip1_mem {a p : Nat} {l : List (List Nat)} (h : ∀ s ∈ l, s ∈ allS p a) : ∀ q ∈ l.zip (l.drop 1), q.1 ∈ allS p a ∧ q.2 ∈ allS p a := fun q hq =>
  ⟨h _ (List.of_mem_zip hq).1, h _ (List.mem_of_mem_drop (List.of_mem_zip hq).2)⟩
theorem isPerm_len {a p : Nat} {l : List (List Nat)} (h : l.isPerm (allS p a) = true) : l.length = p ^ a := by
  rw [(List.isPerm_iff.mp h).length_eq, len_allS]
theorem sort_dec {a p : Nat} (l : List (List Nat)) : decide (l.mergeSort leN = allS p a) = l.isPerm (allS p a) := by
  cases h : l.isPerm (allS p a) with
  | true => exact decide_eq_true ((sort_iff (allS_pw p a)).mpr (List.isPerm_iff.mp h))
  | false =>
    refine decide_eq_false fun z => ?_
    · rw [List.isPerm_iff.mpr ((sort_iff (allS_pw p a)).mp z)] at h
      cases h
theorem is_one_any {a p : Nat} {d : D} (h : FOk a p) (h2 : p ^ a ≤ 512) (k : okV d = true) (cp : Cup) : m_is_one_step_row [Fm a p, d] cp = .ok (.bool (rowV a p d)) cp := by
  have hp : 0 < p := by have := h.2.1; omega
  refine wp_of ?_
  unfold m_is_one_step_row
  repeat walk_at "w"
  refine w_eq (listed_ok h h2 _) ?_
  repeat walk_at "w"
  refine w_eq (all_many_ok h _) ?_
  repeat walk_at "w"
  refine w_eq (is_tuple_any (okV_lay k) _) ?_
  repeat walk_at "w"
  · rename_i hb _
    refine ⟨?_, rfl⟩
    cases hv : rowV a p d with
    | false => rfl
    | true =>
      exfalso
      cases d with
      | tuple ds =>
        have hv : (ds.all (isSg a p) && match rowsOf ds with
          | some l => rowQ a p l
          | none => false) = true := hv
        rw [Bool.and_eq_true] at hv
        obtain ⟨h3, h4⟩ := hv
        obtain ⟨l, rfl, hl⟩ := sg_rows hp h3
        rw [rowsOf_map] at h4
        have h4 : (l.isPerm (allS p a) && consec p l) = true := h4
        rw [Bool.and_eq_true] at h4
        have := isPerm_len h4.1
        have hb : (!(decide (((p ^ a : Nat) : Int) ≤ ((l.map NT).length : Nat)) && decide ((((l.map NT).length : Nat) : Int) ≤ ((p ^ a : Nat) : Int)))) = true := hb
        rw [List.length_map, this, decide_eq_true (Int.le_refl _)] at hb
        cases hb
      | _ => cases hv
  · rename_i hb
    obtain ⟨ds, rfl, hl⟩ : ∃ ds, d = .tuple ds ∧ ds.length = p ^ a := by
      cases d with
      | tuple ds =>
        refine ⟨ds, rfl, ?_⟩
        have hb : (!(decide (((p ^ a : Nat) : Int) ≤ (ds.length : Nat)) && decide (((ds.length : Nat) : Int) ≤ ((p ^ a : Nat) : Int)))) = false := hb
        rw [Bool.not_eq_false', Bool.and_eq_true, decide_eq_true_iff, decide_eq_true_iff] at hb
        omega
      | _ => cases hb
    have k' : ∀ y ∈ ds, okE y = true := List.all_eq_true.mp k
    repeat walk_at "w"
    have e2 : ∀ c, lcGo (gNm 4) (eC (.bool true)) (eCall m_fits_sign (eCons (eNm 0) (eCons (eNm 4) eNil))) (wipeE (List.set (env0 false 7 [Fm a p, .tuple ds]) 2 (some (.int (p ^ a : Nat)))) [4]) ds c = .ok (ds.map fun y => .bool (isSg a p y)) c := fun c => by
      conv => lhs; rw [(List.map_id ds).symm]
      refine lcGo_mapA (ee := fun y => .bool (isSg a p y)) fun y hy => ⟨_, rfl, fun cp => wp_of ?_⟩
      repeat walk_at "w"
      refine w_eq (fits_sign_any h (k' y hy) _) ?_
      repeat walk_at "w"
    refine w_eq (e2 _) ?_
    repeat walk_at "w"
    refine ⟨_, bAll_map (isSg a p) ds, ?_⟩
    repeat walk_at "w"
    · rename_i hb
      refine ⟨?_, rfl⟩
      rw [Bool.not_eq_true'] at hb
      show _ = PyData.bool (ds.all (isSg a p) && _)
      rw [hb]
      rfl
    rename_i hb
    rw [Bool.not_eq_false'] at hb
    obtain ⟨l, rfl, hrow⟩ := sg_rows hp hb
    have hne : ∀ x ∈ l, x ≠ [] := fun x hx => ne_nil_of h (hrow x hx)
    rw [rowV_rows hrow]
    repeat walk_at "w"
    rw [cut_drop1, zip1_NT]
    refine w_eq (lcGo_mapA (l := l.zip (l.drop 1)) (ee := fun q : List Nat × List Nat => (.int ((T p q.1 q.2 : Nat) : Int) : D)) fun q hq => ⟨_, rfl, fun cp => wp_of ?_⟩) ?_
    · repeat walk_at "w"
      refine w_eq (turns_in_ok h (zip1_mem hrow q hq).1 (zip1_mem hrow q hq).2 _) ?_
      repeat walk_at "w"
    repeat walk_at "w"
    refine ⟨_, sorted3_NT0 hne, ?_⟩
    repeat walk_at "w"
    refine w_eq (signs_of_ok h _) ?_
    refine ⟨_, dEq_NTL _ _, ?_⟩
    rw [sort_dec]
    repeat walk_at "w"
    · rename_i hb2
      refine w_eq (lcGo_mapA (l := l.zip (l.drop 1)) (ee := fun q : List Nat × List Nat => (.bool (decide (T p q.1 q.2 = 1)) : D)) fun q hq => ⟨_, rfl, fun cp => wp_of ?_⟩) ?_
      · repeat walk_at "w"
        refine ⟨?_, rfl⟩
        congr 1
        exact decide_eq_decide.mpr (by omega)
      repeat walk_at "w"
      refine ⟨_, bAll_map (fun q : List Nat × List Nat => decide (T p q.1 q.2 = 1)) _, ?_, rfl⟩
      unfold rowQ consec
      rw [hb2]
      rfl
    · rename_i hb2
      refine ⟨?_, rfl⟩
      unfold rowQ
      rw [hb2]
      rfl
/-! the law's own words -/
def E_bad : Ev := (eOr (eNot (eB (eIsi "int" (eNm 3)))) (eOr (eB (eIsi "bool" (eNm 3))) (eNot (eB (eChn dLe dLt (eC (.int 0)) (eNm 3) (eBin dIx (eNm 0) (eC (.int 1))))))))
theorem bad_ok {a p : Nat} {y : D} {z1 z2 z4 : Option D} (hp : 0 < p) (h : flat1 y = true) (c : Cup) : E_bad [some (Fm a p), z1, z2, some y, z4] c = .ok (.bool (!isPl p y)) c := by
  refine wp_of ?_
  unfold E_bad
  cases y with
  | int i =>
    have e0 : isPl p (.int i) = (decide (0 ≤ i) && decide (i ≤ (p : Int) - 1)) := rfl
    repeat walk_at "w"
    · rename_i hb
      refine ⟨?_, rfl⟩
      rw [e0, hb, Bool.true_and]
      congr 2
      exact decide_eq_decide.mpr (by omega)
    · rename_i hb
      refine ⟨_, rfl, _, rfl, ?_, rfl⟩
      rw [e0, hb]
      rfl
  | list => cases h
  | tuple => cases h
  | dict => cases h
  | _ =>
    repeat walk_at "w"
theorem law_sign_any {a p : Nat} {d : D} {ds : List D} {z3 z4 : Option D} (h : FOk a p) (k : okE d = true) (c : Cup) {PO : Out → Cup → Prop}
    (hf : isSg a p d = false → PO (.rt (.bool false)) c) (ht : isSg a p d = true → ∀ z3, PO (.nx [some (Fm a p), some (.tuple ds), some d, z3, z4]) c) :
    Wp ((sSeq (sIf (eOr (eNot (eB (eIsi "tuple" (eNm 2)))) (eB (eBin dNe (eCa bLen (eCons (eNm 2) eNil)) (eBin dIx (eNm 0) (eC (.int 0))))))
      (sRet (eC (.bool false)))
      sNil)
    (sIf (eB (eBin dNe (eLc [3] (gNm 3) (eIt (eNm 2)) E_bad (eNm 3)) (eLst eNil)))
      (sRet (eC (.bool false)))
      sNil)) [some (Fm a p), some (.tuple ds), some d, z3, z4] c) PO := by
  have hp : 0 < p := by have := h.2.1; omega
  cases d with
  | tuple xs =>
    have kx : ∀ y ∈ xs, flat1 y = true := List.all_eq_true.mp k
    have e0 : isSg a p (.tuple xs) = (decide (xs.length = a) && xs.all (isPl p)) := rfl
    repeat walk_at "w"
    · rename_i hb
      rw [Bool.not_eq_true', decide_eq_false_iff_not] at hb
      exact hf (by rw [e0, decide_eq_false (by omega)]; rfl)
    repeat walk_at "w"
    rename_i hb
    rw [Bool.not_eq_false', decide_eq_true_iff] at hb
    have e2 : ∀ c, lcGo (gNm 3) E_bad (eNm 3) (wipeE [some (Fm a p), some (.tuple ds), some (.tuple xs), z3, z4] [3]) xs c = .ok (xs.filter fun y => !isPl p y) c := fun c => by
      conv => lhs; rw [(List.map_id xs).symm]
      rw [lcGo_mapP (tt := fun y => !isPl p y) (ee := id) fun y hy => ⟨_, rfl, fun c => ⟨bad_ok hp (kx y hy) c, fun _ => rfl⟩⟩, List.map_id]
    refine w_eq (e2 _) ?_
    repeat walk_at "w"
    refine ⟨_, dNe_nil fun y hy => kx y (List.mem_filter.mp hy).1, ?_⟩
    have e3 : (xs.filter fun y => !isPl p y).isEmpty = xs.all (isPl p) := by
      rw [Bool.eq_iff_iff, List.isEmpty_iff, List.filter_eq_nil_iff, List.all_eq_true]
      exact forall_congr' fun y => by
        cases isPl p y <;> simp
    rw [e3]
    have e4 : isSg a p (.tuple xs) = xs.all (isPl p) := by rw [e0, decide_eq_true (by omega), Bool.true_and]
    repeat walk_at "w"
    · rename_i hb2
      rw [Bool.not_eq_true'] at hb2
      exact hf (e4.trans hb2)
    repeat walk_at "w"
    rename_i hb2
    rw [Bool.not_eq_false'] at hb2
    exact ht (e4.trans hb2) _
  | dict => cases k
  | _ =>
    repeat walk_at "w"
    exact hf rfl
theorem law_any {a p : Nat} {d : D} (h : FOk a p) (k : okV d = true) (cp : Cup) : m_law_is_row [Fm a p, d] cp = .ok (.bool (rowV a p d)) cp := by
  have hp : 0 < p := by have := h.2.1; omega
  cases d with
  | tuple ds =>
    have k' : ∀ y ∈ ds, okE y = true := List.all_eq_true.mp k
    refine wp_of ?_
    unfold m_law_is_row
    repeat walk_at "w"
    refine forGo_inv (ds0 := ds) (I := fun dn r env c => c = cp ∧ dn.all (isSg a p) = true ∧ ∃ z2 z3 z4 : Option D, env = [some (Fm a p), some (.tuple ds), z2, z3, z4]) ?_ ?_ _ [] _ _ rfl ⟨rfl, rfl, none, none, none, rfl⟩
    · rintro dn d r env c e ⟨rfl, hd, z2, z3, z4, rfl⟩
      have hm : d ∈ ds := by rw [e]; simp
      refine ⟨_, rfl, law_sign_any h (k' d hm) _ (fun hs => ?_) fun hs z3 => ?_⟩
      · show PyData.bool false = PyData.bool (rowV a p (.tuple ds)) ∧ c = c
        rw [rowV_not hm hs]
        exact ⟨rfl, rfl⟩
      · refine ⟨rfl, ?_, some d, z3, z4, rfl⟩
        rw [List.all_append, hd]
        show (isSg a p d && true) = true
        rw [hs]
        rfl
    · rintro env c ⟨rfl, hd, z2, z3, z4, rfl⟩
      obtain ⟨l, rfl, hrow⟩ := sg_rows hp hd
      have hne : ∀ x ∈ l, x ≠ [] := fun x hx => ne_nil_of h (hrow x hx)
      rw [rowV_rows hrow]
      repeat walk_at "w"
      refine ⟨_, sorted3_NT0 hne, ?_⟩
      repeat walk_at "w"
      refine w_eq (law_all_ok h _) ?_
      refine ⟨_, dNe_NTL _ _, ?_⟩
      rw [sort_dec]
      repeat walk_at "w"
      · rename_i hb
        rw [Bool.not_eq_true'] at hb
        refine ⟨?_, rfl⟩
        unfold rowQ
        rw [hb]
        rfl
      repeat walk_at "w"
      rename_i hb
      rw [Bool.not_eq_false'] at hb
      rw [cut_drop1, zip1_NT]
      refine w_eq (lcGo_mapP (l := l.zip (l.drop 1)) (tt := fun q : List Nat × List Nat => !decide (T p q.1 q.2 = 1)) (ee := fun _ => (.int 1 : D)) fun q hq => ⟨_, rfl, fun cp => ⟨wp_of ?_, fun _ => rfl⟩⟩) ?_
      · repeat walk_at "w"
        refine w_eq (law_turns_ok h (zip1_mem hrow q hq).1 (zip1_mem hrow q hq).2 _) ?_
        repeat walk_at "w"
        refine ⟨?_, rfl⟩
        congr 2
        exact decide_eq_decide.mpr (by omega)
      repeat walk_at "w"
      refine ⟨_, dEq_nil fun y hy => ?_, ?_⟩
      · obtain ⟨q, _, rfl⟩ := List.mem_map.mp hy
        rfl
      refine ⟨?_, rfl⟩
      congr 1
      unfold rowQ consec
      rw [hb, Bool.true_and, Bool.eq_iff_iff, List.isEmpty_iff, List.map_eq_nil_iff, List.filter_eq_nil_iff, List.all_eq_true]
      exact forall_congr' fun y => by simp
  | dict => cases k
  | _ =>
    refine wp_of ?_
    unfold m_law_is_row
    repeat walk_at "w"
end L_k14
namespace L_k14
open PySem MP MP.SI
local macro_rules | `(tactic| walk_at "w") => `(tactic| first
  | with_reducible refine w_seq ?_
  | with_reducible refine w_set ?_
  | with_reducible refine w_ret ?_
  | with_reducible refine w_cons ?_
  | with_reducible refine w_nil ?_
  | with_reducible refine w_c ?_
  | ((with_reducible refine' w_nm ?hnm ?_); (case hnm => exact rfl))
  | with_reducible refine w_bin ?_
  | with_reducible refine w_b ?_
  | with_reducible refine w_not ?_
  | with_reducible refine w_and ?_
  | with_reducible refine w_or ?_
  | with_reducible refine w_if ?_
  | with_reducible refine w_sif ?_
  | with_reducible refine w_chn ?_
  | with_reducible refine w_call ?_
  | with_reducible refine w_ca ?_
  | with_reducible refine w_tup ?_
  | with_reducible refine w_lst ?_
  | with_reducible refine w_isi ?_
  | with_reducible refine w_drop ?_
  | with_reducible refine w_snil ?_
  | with_reducible refine w_par ?_
  | with_reducible refine w_asg ?_
  | with_reducible refine w_for ?_
  | with_reducible refine w_lc ?_
  | with_reducible refine w_it ?_
  | with_reducible refine w_zip ?_
  | with_reducible refine w_enum ?_
  | with_reducible refine w_sl2 ?_
  | with_reducible refine w_eoN ?_
  | with_reducible refine w_eoS ?_
  | with_reducible refine w_me ?_
  | with_reducible refine w_rev ?_
  | ((with_reducible refine' w_app ?hap ?_); (case hap => exact rfl))
  | ((with_reducible refine' w_augI ?hap ?_); (case hap => exact rfl))
  | with_reducible refine w_rg1 ?_
  | with_reducible refine w_rg2 ?_
  | with_reducible refine w_scup ?_
  | with_reducible refine w_cup ?_
  | with_reducible refine w_neg ?_
  | with_reducible refine w_mean ?_
  | with_reducible refine ⟨_, dLt_ii, ?_⟩
  | with_reducible refine ⟨_, dGt_ii, ?_⟩
  | with_reducible refine ⟨_, dLe_ii, ?_⟩
  | with_reducible refine ⟨_, dGe_ii, ?_⟩
  | with_reducible refine ⟨_, dEq_ii, ?_⟩
  | with_reducible refine ⟨_, dNe_ii, ?_⟩
  | with_reducible refine ⟨_, dLe_ii, fun _ => ?_, fun _ => ?_⟩
  | with_reducible refine ⟨_, dLt_ii, fun _ => ?_, fun _ => ?_⟩
  | with_reducible refine ⟨_, dAdd_ii, ?_⟩
  | with_reducible refine ⟨_, dSub_ii, ?_⟩
  | with_reducible refine ⟨_, isi_int_int, ?_⟩
  | with_reducible refine ⟨_, isi_int_bool, ?_⟩
  | with_reducible refine ⟨_, isi_int_str, ?_⟩
  | with_reducible refine ⟨_, isi_int_tuple, ?_⟩
  | with_reducible refine ⟨_, isi_tuple_int, ?_⟩
  | with_reducible refine ⟨_, isi_tuple_bool, ?_⟩
  | with_reducible refine ⟨_, isi_tuple_str, ?_⟩
  | with_reducible refine ⟨_, isi_tuple_tuple, ?_⟩
  | with_reducible refine ⟨_, isi_str_int, ?_⟩
  | with_reducible refine ⟨_, isi_str_bool, ?_⟩
  | with_reducible refine ⟨_, isi_str_str, ?_⟩
  | with_reducible refine ⟨_, isi_str_tuple, ?_⟩
  | with_reducible refine ⟨_, isi_bool_int, ?_⟩
  | with_reducible refine ⟨_, isi_bool_bool, ?_⟩
  | with_reducible refine ⟨_, isi_bool_str, ?_⟩
  | with_reducible refine ⟨_, isi_bool_tuple, ?_⟩
  | with_reducible refine ⟨_, isi_none_int, ?_⟩
  | with_reducible refine ⟨_, isi_none_bool, ?_⟩
  | with_reducible refine ⟨_, isi_none_str, ?_⟩
  | with_reducible refine ⟨_, isi_none_tuple, ?_⟩
  | with_reducible refine ⟨_, isi_list_int, ?_⟩
  | with_reducible refine ⟨_, isi_list_bool, ?_⟩
  | with_reducible refine ⟨_, isi_list_str, ?_⟩
  | with_reducible refine ⟨_, isi_list_tuple, ?_⟩
  | with_reducible refine ⟨true, rfl, fun _ => ?_, fun h => absurd h (by decide)⟩
  | with_reducible refine ⟨false, rfl, fun h => absurd h (by decide), fun _ => ?_⟩
  | (fail_if_success with_reducible refine mul_shape ?_); (fail_if_success with_reducible refine mul2_shape ?_); with_reducible refine ⟨_, rfl, fun hb => ?_, fun hb => ?_⟩
  | (fail_if_success with_reducible refine mul_shape ?_); (fail_if_success with_reducible refine mul2_shape ?_); with_reducible refine ⟨_, rfl, ?_⟩
  | with_reducible refine ⟨fun hb => ?_, fun hb => ?_⟩
  | with_reducible exact ⟨rfl, rfl⟩
  | with_reducible refine ⟨(rfl : isLst _ = true), ?_⟩)
theorem flat_NT (s : List Nat) : (s.map fun q : Nat => (.int q : D)).all flat1 = true := by
  rw [List.all_map, List.all_eq_true]
  exact fun _ _ => rfl
theorem okE_NT (s : List Nat) : okE (NT s) = true := flat_NT s
theorem okE_NTs (l : List (List Nat)) : (l.map NT).all okE = true := by
  rw [List.all_map, List.all_eq_true]
  exact fun s _ => okE_NT s
theorem okV_NTs (l : List (List Nat)) : okV (.tuple (l.map NT)) = true := okE_NTs l
theorem ix_NT {l : List (List Nat)} {i : Nat} (h : i < l.length) : dIx (.tuple (l.map NT)) (.int i) = some (NT (l.getD i [])) := by
  show L2.atI (l.map NT) (i : Int) = _
  refine L2.atI_nat ?_
  rw [List.getElem?_map, List.getElem?_eq_getElem h, List.getD_eq_getElem?_getD, List.getElem?_eq_getElem h]
  rfl
theorem getD_in {l : List (List Nat)} {i : Nat} (h : i < l.length) : l.getD i [] ∈ l := by
  rw [List.getD_eq_getElem?_getD, List.getElem?_eq_getElem h]
  exact List.getElem_mem h
theorem near_ok {a p : Nat} {g : List (List Nat)} (h : FOk a p) (hg : ∀ s ∈ g, s ∈ allS p a) (h1 : 1 ≤ g.length) (h2 : g.length ≤ 512) (cp : Cup) : Wp (m_law_near [Fm a p, .tuple (g.map NT)] cp) fun d _ => ∃ L, d = .list L ∧ ∀ x ∈ L, okV x = true := by
  unfold m_law_near
  repeat walk_at "w"
  refine w_ex (rollOk _ (by rw [List.length_map]; omega) (by rw [List.length_map]; omega) _) ?_
  rintro d1 c1 ⟨x, rfl, x0, x1⟩
  repeat walk_at "w"
  refine w_ex (rollOk _ (by rw [List.length_map]; omega) (by rw [List.length_map]; omega) _) ?_
  rintro d2 c2 ⟨y, rfl, y0, y1⟩
  rw [List.length_map] at x1 y1
  obtain ⟨i, rfl⟩ : ∃ i : Nat, x = (i : Int) := ⟨x.toNat, by omega⟩
  obtain ⟨j, rfl⟩ : ∃ j : Nat, y = (j : Int) := ⟨y.toNat, by omega⟩
  have xi : i < g.length := by omega
  have yj : j < g.length := by omega
  have hgi := (mem_allS.mp (hg _ (getD_in xi))).1
  have ha := h.1.2
  repeat walk_at "w"
  refine w_rv ?_
  repeat walk_at "w"
  rw [show cutL (g.map NT) none (some 1) = (g.take 1).map NT by rw [show (1 : Int) = ((1 : Nat) : Int) from rfl, cut_to, List.map_take]]
  refine ⟨_, dAdd_tup (by rw [List.length_map, List.length_map, List.length_take]; omega), ?_⟩
  repeat walk_at "w"
  rw [cut_drop, cut_to, ← List.map_drop, ← List.map_take]
  refine ⟨_, dAdd_tup (by rw [List.length_map, List.length_map, List.length_take, List.length_drop]; omega), ?_⟩
  repeat walk_at "w"
  refine w_eq (law_all_ok h _) ?_
  repeat walk_at "w"
  refine w_eq (lcGo_mapA (ee := fun s : List Nat => NT (s.map fun q => (q + 1) % p)) fun s hs => ⟨_, rfl, fun cp => wp_of ?_⟩) ?_
  · repeat walk_at "w"
    refine w_eq (lcGo_mapA (ee := fun q : Nat => (.int (((q + 1) % p : Nat) : Int) : D)) fun q hq => ⟨_, rfl, fun cp => wp_of ?_⟩) ?_
    · repeat walk_at "w"
      refine ⟨_, dMod_ii (by have := h.2.1; omega), ?_, rfl⟩
      rw [show ((q : Int) + 1) = ((q + 1 : Nat) : Int) from rfl, ← Int.natCast_emod]
    repeat walk_at "w"
    refine ⟨?_, rfl⟩
    rw [NT, List.map_map]
    rfl
  repeat walk_at "w"
  refine ⟨by show 11 < _; omega, ?_⟩
  repeat walk_at "w"
  refine w_eq (lcGo_mapA (ee := fun s : List Nat => NT s.reverse) fun s hs => ⟨_, rfl, fun cp => wp_of ?_⟩) ?_
  · refine w_rv ?_
    repeat walk_at "w"
    refine ⟨?_, rfl⟩
    rw [NT, List.map_reverse]
  repeat walk_at "w"
  refine ⟨by show 12 < _; omega, ?_⟩
  repeat walk_at "w"
  refine ⟨_, ix_NT yj, ?_⟩
  repeat walk_at "w"
  refine ⟨_, ix_NT xi, ?_⟩
  have hok : ∀ x ∈ ([.tuple (g.map NT), .tuple (g.map NT).reverse, .tuple (cutL (g.map NT) (some 1) none), .tuple (g.map NT ++ (g.take 1).map NT), .tuple ((g.drop i).map NT ++ (g.take i).map NT), .list (g.map NT), .none, .tuple [], .str "row", .int 5, .tuple ((allS p a).map NT)] ++ [.tuple (g.map fun s => NT (s.map fun q => (q + 1) % p))] ++ [.tuple (g.map fun s => NT s.reverse)] : List D), okV x = true := by
    have hrow : ∀ s : List D, s = (g.map NT).reverse ∨ s = cutL (g.map NT) (some 1) none → s.all okE = true := fun s hs => by
      rcases hs with rfl | rfl
      · rw [List.all_reverse]; exact okE_NTs g
      · rw [cut_drop1, ← List.map_drop]; exact okE_NTs _
    have happ : ∀ l m : List (List Nat), (l.map NT ++ m.map NT).all okE = true := fun l m => by
      rw [List.all_append, okE_NTs, okE_NTs]; rfl
    intro x hx
    simp only [List.mem_append, List.mem_cons, List.not_mem_nil, or_false] at hx
    rcases hx with ((rfl | rfl | rfl | rfl | rfl | rfl | rfl | rfl | rfl | rfl | rfl) | rfl) | rfl
    · exact okE_NTs g
    · exact hrow _ (.inl rfl)
    · exact hrow _ (.inr rfl)
    · exact happ _ _
    · exact happ _ _
    · exact okV_lay (d := .tuple (g.map NT)) (okV_NTs g)
    · rfl
    · rfl
    · exact (by decide +kernel : PyData.canLay0 (.str "row") = true)
    · rfl
    · exact okE_NTs _
    · show (g.map fun s => NT (s.map fun q => (q + 1) % p)).all okE = true
      rw [List.all_map, List.all_eq_true]
      exact fun s _ => okE_NT _
    · show (g.map fun s => NT s.reverse).all okE = true
      rw [List.all_map, List.all_eq_true]
      exact fun s _ => okE_NT _
  have hlen : ([.tuple (g.map NT), .tuple (g.map NT).reverse, .tuple (cutL (g.map NT) (some 1) none), .tuple (g.map NT ++ (g.take 1).map NT), .tuple ((g.drop i).map NT ++ (g.take i).map NT), .list (g.map NT), .none, .tuple [], .str "row", .int 5, .tuple ((allS p a).map NT)] ++ [.tuple (g.map fun s => NT (s.map fun q => (q + 1) % p))] ++ [.tuple (g.map fun s => NT s.reverse)] : List D).length ≤ 100 := by show 13 ≤ 100; omega
  generalize ([.tuple (g.map NT), .tuple (g.map NT).reverse, .tuple (cutL (g.map NT) (some 1) none), .tuple (g.map NT ++ (g.take 1).map NT), .tuple ((g.drop i).map NT ++ (g.take i).map NT), .list (g.map NT), .none, .tuple [], .str "row", .int 5, .tuple ((allS p a).map NT)] ++ [.tuple (g.map fun s => NT (s.map fun q => (q + 1) % p))] ++ [.tuple (g.map fun s => NT s.reverse)] : List D) = L0 at hok hlen ⊢
  repeat walk_at "w"
  refine ⟨_, ix_NT xi, ?_⟩
  repeat walk_at "w"
  refine ⟨_, ix_NT xi, ?_⟩
  repeat walk_at "w"
  refine ⟨_, dAdd_tup (by rw [List.length_map]; show _ + 1 ≤ _; omega), ?_⟩
  repeat walk_at "w"
  refine ⟨_, ix_NT xi, ?_⟩
  repeat walk_at "w"
  rw [cut_drop1, ← List.map_drop]
  refine ⟨_, dAdd_tup (by rw [List.length_map, List.length_drop]; show 1 + _ ≤ _; omega), ?_⟩
  repeat walk_at "w"
  refine ⟨_, ix_NT xi, ?_⟩
  repeat walk_at "w"
  rw [cut_drop1, ← List.map_drop]
  refine ⟨_, dAdd_tup (by rw [List.length_map, List.length_drop]; show 1 + _ ≤ _; omega), ?_⟩
  repeat walk_at "w"
  refine ⟨_, ix_NT xi, ?_⟩
  repeat walk_at "w"
  rw [cut_drop1, ← List.map_drop]
  refine ⟨_, dAdd_tup (by rw [List.length_map, List.length_drop]; show 1 + _ ≤ _; omega), ?_⟩
  repeat walk_at "w"
  refine ⟨_, ix_NT xi, ?_⟩
  repeat walk_at "w"
  rw [cut_drop1, ← List.map_drop]
  refine ⟨_, dAdd_tup (by rw [List.length_map, List.length_drop]; show 1 + _ ≤ _; omega), ?_⟩
  repeat walk_at "w"
  have hodd : ∀ x ∈ ([NT (g.getD j []), .list ((g.getD i []).map fun p : Nat => (.int p : D)), .tuple (((g.getD i []).drop 1).map fun p : Nat => (.int p : D)), .tuple (((g.getD i []).map fun p : Nat => (.int p : D)) ++ [.int 0]), .none, .tuple ([.bool true] ++ ((g.getD i []).drop 1).map fun p : Nat => (.int p : D)), .tuple ([.int p] ++ ((g.getD i []).drop 1).map fun p : Nat => (.int p : D)), .tuple ([.int (-1)] ++ ((g.getD i []).drop 1).map fun p : Nat => (.int p : D))] ++ [.tuple ([.none] ++ ((g.getD i []).drop 1).map fun p : Nat => (.int p : D)), .tuple []] : List D), okE x = true := by
    have hf : ∀ (d : D) (s : List Nat), flat1 d = true → ([d] ++ s.map fun p : Nat => (.int p : D)).all flat1 = true := fun d s hd => by
      rw [List.all_append, flat_NT]
      show ((flat1 d && true) && true) = true
      rw [hd]
      rfl
    intro x hx
    simp only [List.mem_append, List.mem_cons, List.not_mem_nil, or_false] at hx
    rcases hx with (rfl | rfl | rfl | rfl | rfl | rfl | rfl | rfl) | rfl | rfl
    · exact okE_NT _
    · exact flat_NT _
    · exact flat_NT _
    · show (_ ++ [_]).all flat1 = true
      rw [List.all_append, flat_NT]
      rfl
    · rfl
    · exact hf _ _ rfl
    · exact hf _ _ rfl
    · exact hf _ _ rfl
    · exact hf _ _ rfl
    · rfl
  have olen : ([NT (g.getD j []), .list ((g.getD i []).map fun p : Nat => (.int p : D)), .tuple (((g.getD i []).drop 1).map fun p : Nat => (.int p : D)), .tuple (((g.getD i []).map fun p : Nat => (.int p : D)) ++ [.int 0]), .none, .tuple ([.bool true] ++ ((g.getD i []).drop 1).map fun p : Nat => (.int p : D)), .tuple ([.int p] ++ ((g.getD i []).drop 1).map fun p : Nat => (.int p : D)), .tuple ([.int (-1)] ++ ((g.getD i []).drop 1).map fun p : Nat => (.int p : D))] ++ [.tuple ([.none] ++ ((g.getD i []).drop 1).map fun p : Nat => (.int p : D)), .tuple []] : List D).length ≤ 100 := by show 10 ≤ 100; omega
  generalize ([NT (g.getD j []), .list ((g.getD i []).map fun p : Nat => (.int p : D)), .tuple (((g.getD i []).drop 1).map fun p : Nat => (.int p : D)), .tuple (((g.getD i []).map fun p : Nat => (.int p : D)) ++ [.int 0]), .none, .tuple ([.bool true] ++ ((g.getD i []).drop 1).map fun p : Nat => (.int p : D)), .tuple ([.int p] ++ ((g.getD i []).drop 1).map fun p : Nat => (.int p : D)), .tuple ([.int (-1)] ++ ((g.getD i []).drop 1).map fun p : Nat => (.int p : D))] ++ [.tuple ([.none] ++ ((g.getD i []).drop 1).map fun p : Nat => (.int p : D)), .tuple []] : List D) = Od at hodd olen ⊢
  rw [show Od = Od.map id from (List.map_id Od).symm]
  refine w_eq (lcGo_mapA (ee := fun d : D => (.tuple ((g.take i).map NT ++ [d] ++ (g.drop (i + 1)).map NT) : D)) fun d hd => ⟨_, rfl, fun cp => wp_of ?_⟩) ?_
  · repeat walk_at "w"
    rw [cut_to, ← List.map_take]
    refine ⟨_, dAdd_tup (by rw [List.length_map, List.length_take]; show _ + 1 ≤ _; omega), ?_⟩
    repeat walk_at "w"
    rw [show ((i : Int) + 1) = ((i + 1 : Nat) : Int) from rfl, cut_drop, ← List.map_drop]
    refine ⟨_, dAdd_tup (by rw [List.length_append, List.length_map, List.length_map, List.length_take, List.length_drop]; show _ + 1 + _ ≤ _; omega), rfl, rfl⟩
  repeat walk_at "w"
  refine ⟨_, dAdd_lst (by rw [List.length_map]; omega), ?_⟩
  refine ⟨_, rfl, fun x hx => ?_⟩
  rcases List.mem_append.mp hx with hx | hx
  · exact hok x hx
  · obtain ⟨d, hd, rfl⟩ := List.mem_map.mp hx
    show (_ ++ [d] ++ _).all okE = true
    rw [List.all_append, List.all_append, okE_NTs, okE_NTs]
    show ((true && (okE d && true)) && true) = true
    rw [hodd d hd]
    rfl
end L_k14
namespace L_k14
open PySem MP MP.SI
local macro_rules | `(tactic| walk_at "w") => `(tactic| first
  | with_reducible refine w_seq ?_
  | with_reducible refine w_set ?_
  | with_reducible refine w_ret ?_
  | with_reducible refine w_cons ?_
  | with_reducible refine w_nil ?_
  | with_reducible refine w_c ?_
  | ((with_reducible refine' w_nm ?hnm ?_); (case hnm => exact rfl))
  | with_reducible refine w_bin ?_
  | with_reducible refine w_b ?_
  | with_reducible refine w_not ?_
  | with_reducible refine w_and ?_
  | with_reducible refine w_or ?_
  | with_reducible refine w_if ?_
  | with_reducible refine w_sif ?_
  | with_reducible refine w_chn ?_
  | with_reducible refine w_call ?_
  | with_reducible refine w_ca ?_
  | with_reducible refine w_tup ?_
  | with_reducible refine w_lst ?_
  | with_reducible refine w_isi ?_
  | with_reducible refine w_drop ?_
  | with_reducible refine w_snil ?_
  | with_reducible refine w_par ?_
  | with_reducible refine w_asg ?_
  | with_reducible refine w_for ?_
  | with_reducible refine w_lc ?_
  | with_reducible refine w_it ?_
  | with_reducible refine w_zip ?_
  | with_reducible refine w_enum ?_
  | with_reducible refine w_sl2 ?_
  | with_reducible refine w_eoN ?_
  | with_reducible refine w_eoS ?_
  | with_reducible refine w_me ?_
  | with_reducible refine w_rev ?_
  | ((with_reducible refine' w_app ?hap ?_); (case hap => exact rfl))
  | ((with_reducible refine' w_augI ?hap ?_); (case hap => exact rfl))
  | with_reducible refine w_rg1 ?_
  | with_reducible refine w_rg2 ?_
  | with_reducible refine w_scup ?_
  | with_reducible refine w_cup ?_
  | with_reducible refine w_neg ?_
  | with_reducible refine w_mean ?_
  | with_reducible refine ⟨_, dLt_ii, ?_⟩
  | with_reducible refine ⟨_, dGt_ii, ?_⟩
  | with_reducible refine ⟨_, dLe_ii, ?_⟩
  | with_reducible refine ⟨_, dGe_ii, ?_⟩
  | with_reducible refine ⟨_, dEq_ii, ?_⟩
  | with_reducible refine ⟨_, dNe_ii, ?_⟩
  | with_reducible refine ⟨_, dLe_ii, fun _ => ?_, fun _ => ?_⟩
  | with_reducible refine ⟨_, dLt_ii, fun _ => ?_, fun _ => ?_⟩
  | with_reducible refine ⟨_, dAdd_ii, ?_⟩
  | with_reducible refine ⟨_, dSub_ii, ?_⟩
  | with_reducible refine ⟨_, isi_int_int, ?_⟩
  | with_reducible refine ⟨_, isi_int_bool, ?_⟩
  | with_reducible refine ⟨_, isi_int_str, ?_⟩
  | with_reducible refine ⟨_, isi_int_tuple, ?_⟩
  | with_reducible refine ⟨_, isi_tuple_int, ?_⟩
  | with_reducible refine ⟨_, isi_tuple_bool, ?_⟩
  | with_reducible refine ⟨_, isi_tuple_str, ?_⟩
  | with_reducible refine ⟨_, isi_tuple_tuple, ?_⟩
  | with_reducible refine ⟨_, isi_str_int, ?_⟩
  | with_reducible refine ⟨_, isi_str_bool, ?_⟩
  | with_reducible refine ⟨_, isi_str_str, ?_⟩
  | with_reducible refine ⟨_, isi_str_tuple, ?_⟩
  | with_reducible refine ⟨_, isi_bool_int, ?_⟩
  | with_reducible refine ⟨_, isi_bool_bool, ?_⟩
  | with_reducible refine ⟨_, isi_bool_str, ?_⟩
  | with_reducible refine ⟨_, isi_bool_tuple, ?_⟩
  | with_reducible refine ⟨_, isi_none_int, ?_⟩
  | with_reducible refine ⟨_, isi_none_bool, ?_⟩
  | with_reducible refine ⟨_, isi_none_str, ?_⟩
  | with_reducible refine ⟨_, isi_none_tuple, ?_⟩
  | with_reducible refine ⟨_, isi_list_int, ?_⟩
  | with_reducible refine ⟨_, isi_list_bool, ?_⟩
  | with_reducible refine ⟨_, isi_list_str, ?_⟩
  | with_reducible refine ⟨_, isi_list_tuple, ?_⟩
  | with_reducible refine ⟨true, rfl, fun _ => ?_, fun h => absurd h (by decide)⟩
  | with_reducible refine ⟨false, rfl, fun h => absurd h (by decide), fun _ => ?_⟩
  | (fail_if_success with_reducible refine mul_shape ?_); (fail_if_success with_reducible refine mul2_shape ?_); with_reducible refine ⟨_, rfl, fun hb => ?_, fun hb => ?_⟩
  | (fail_if_success with_reducible refine mul_shape ?_); (fail_if_success with_reducible refine mul2_shape ?_); with_reducible refine ⟨_, rfl, ?_⟩
  | with_reducible refine ⟨fun hb => ?_, fun hb => ?_⟩
  | with_reducible exact ⟨rfl, rfl⟩
  | with_reducible refine ⟨(rfl : isLst _ = true), ?_⟩)
theorem gray_ok {a p : Nat} (h : FOk a p) (h2 : p ^ a ≤ 128) : (gray p a).isPerm (allS p a) = true ∧ consec p (gray p a) = true := by
  have := List.all_eq_true.mp gray_all (a, p) (frames_mem h)
  unfold grayB at this
  rw [Bool.or_eq_true] at this
  rcases this with z | z
  · have e : Nat.ble (p ^ a) 128 = true := Nat.ble_eq_true_of_le h2
    rw [e] at z
    cases z
  · exact Bool.and_eq_true_iff.mp z
theorem rows_right (cp : Cup) : Wp (m_law_rows_right [] cp) fun d _ => d = .bool true := by
  unfold m_law_rows_right
  repeat walk_at "w"
  rw [some_eq]
  refine w_ex (some_ok rollOk (ds := [.int 9, .int 64, .int 128]) (by decide) (by decide) _) ?_
  rintro d c1 hd
  obtain ⟨m, hm, rfl⟩ : ∃ m : Nat, (2 ≤ m ∧ m ≤ 128) ∧ d = .int m := by
    rcases List.mem_cons.mp hd with z | hd
    · exact ⟨9, by omega, z⟩
    rcases List.mem_cons.mp hd with z | hd
    · exact ⟨64, by omega, z⟩
    rcases List.mem_cons.mp hd with z | hd
    · exact ⟨128, by omega, z⟩
    · cases hd
  repeat walk_at "w"
  refine w_ex (law_frame_ok (most := m) hm.1 _) ?_
  rintro d c2 ⟨a, p, rfl, h, h5⟩
  obtain ⟨g1, g2⟩ := gray_ok h (by omega)
  have hmem : ∀ s ∈ gray p a, s ∈ allS p a := fun s hs => (List.isPerm_iff.mp g1).mem_iff.mp hs
  have hlen := isPerm_len g1
  have hpos : 1 ≤ p ^ a := Nat.one_le_pow _ _ (by have := h.2.1; omega)
  repeat walk_at "w"
  refine w_eq (one_step_ok h (by omega) _) ?_
  repeat walk_at "w"
  refine w_eq (law_any h (okV_NTs _) _) ?_
  rw [rowV_rows hmem, show rowQ a p (gray p a) = true by unfold rowQ; rw [g1, g2]; rfl]
  repeat walk_at "w"
  refine w_ex (near_ok h hmem (by omega) (by omega) _) ?_
  rintro d c3 ⟨L, rfl, hL⟩
  repeat walk_at "w"
  rw [show L = L.map id from (List.map_id L).symm]
  refine w_eq (lcGo_mapP (tt := fun _ => false) (ee := id) fun d hd => ⟨_, rfl, fun cp => ⟨wp_of ?_, fun z => by cases z⟩⟩) ?_
  · repeat walk_at "w"
    refine w_eq (is_one_any h (by omega) (hL d hd) _) ?_
    repeat walk_at "w"
    refine w_eq (law_any h (hL d hd) _) ?_
    repeat walk_at "w"
    refine same_w (n := 8) trivial rfl ?_
    repeat walk_at "w"
  repeat walk_at "w"
  rw [show L.filter (fun _ => false) = [] from List.filter_eq_nil_iff.mpr fun _ _ => by simp]
  exact ⟨_, dEq_nil (l := []) (fun d hd => by cases hd), rfl⟩
end L_k14
namespace L_k14
open PySem MP MP.SI
local macro_rules | `(tactic| walk_at "w") => `(tactic| first
  | with_reducible refine w_seq ?_
  | with_reducible refine w_set ?_
  | with_reducible refine w_ret ?_
  | with_reducible refine w_cons ?_
  | with_reducible refine w_nil ?_
  | with_reducible refine w_c ?_
  | ((with_reducible refine' w_nm ?hnm ?_); (case hnm => exact rfl))
  | with_reducible refine w_bin ?_
  | with_reducible refine w_b ?_
  | with_reducible refine w_not ?_
  | with_reducible refine w_and ?_
  | with_reducible refine w_or ?_
  | with_reducible refine w_if ?_
  | with_reducible refine w_sif ?_
  | with_reducible refine w_chn ?_
  | with_reducible refine w_call ?_
  | with_reducible refine w_ca ?_
  | with_reducible refine w_tup ?_
  | with_reducible refine w_lst ?_
  | with_reducible refine w_isi ?_
  | with_reducible refine w_drop ?_
  | with_reducible refine w_snil ?_
  | with_reducible refine w_par ?_
  | with_reducible refine w_asg ?_
  | with_reducible refine w_for ?_
  | with_reducible refine w_lc ?_
  | with_reducible refine w_it ?_
  | with_reducible refine w_zip ?_
  | with_reducible refine w_enum ?_
  | with_reducible refine w_sl2 ?_
  | with_reducible refine w_eoN ?_
  | with_reducible refine w_eoS ?_
  | with_reducible refine w_me ?_
  | with_reducible refine w_rev ?_
  | ((with_reducible refine' w_app ?hap ?_); (case hap => exact rfl))
  | ((with_reducible refine' w_augI ?hap ?_); (case hap => exact rfl))
  | with_reducible refine w_rg1 ?_
  | with_reducible refine w_rg2 ?_
  | with_reducible refine w_scup ?_
  | with_reducible refine w_cup ?_
  | with_reducible refine w_neg ?_
  | with_reducible refine w_mean ?_
  | with_reducible refine ⟨_, dLt_ii, ?_⟩
  | with_reducible refine ⟨_, dGt_ii, ?_⟩
  | with_reducible refine ⟨_, dLe_ii, ?_⟩
  | with_reducible refine ⟨_, dGe_ii, ?_⟩
  | with_reducible refine ⟨_, dEq_ii, ?_⟩
  | with_reducible refine ⟨_, dNe_ii, ?_⟩
  | with_reducible refine ⟨_, dLe_ii, fun _ => ?_, fun _ => ?_⟩
  | with_reducible refine ⟨_, dLt_ii, fun _ => ?_, fun _ => ?_⟩
  | with_reducible refine ⟨_, dAdd_ii, ?_⟩
  | with_reducible refine ⟨_, dSub_ii, ?_⟩
  | with_reducible refine ⟨_, isi_int_int, ?_⟩
  | with_reducible refine ⟨_, isi_int_bool, ?_⟩
  | with_reducible refine ⟨_, isi_int_str, ?_⟩
  | with_reducible refine ⟨_, isi_int_tuple, ?_⟩
  | with_reducible refine ⟨_, isi_tuple_int, ?_⟩
  | with_reducible refine ⟨_, isi_tuple_bool, ?_⟩
  | with_reducible refine ⟨_, isi_tuple_str, ?_⟩
  | with_reducible refine ⟨_, isi_tuple_tuple, ?_⟩
  | with_reducible refine ⟨_, isi_str_int, ?_⟩
  | with_reducible refine ⟨_, isi_str_bool, ?_⟩
  | with_reducible refine ⟨_, isi_str_str, ?_⟩
  | with_reducible refine ⟨_, isi_str_tuple, ?_⟩
  | with_reducible refine ⟨_, isi_bool_int, ?_⟩
  | with_reducible refine ⟨_, isi_bool_bool, ?_⟩
  | with_reducible refine ⟨_, isi_bool_str, ?_⟩
  | with_reducible refine ⟨_, isi_bool_tuple, ?_⟩
  | with_reducible refine ⟨_, isi_none_int, ?_⟩
  | with_reducible refine ⟨_, isi_none_bool, ?_⟩
  | with_reducible refine ⟨_, isi_none_str, ?_⟩
  | with_reducible refine ⟨_, isi_none_tuple, ?_⟩
  | with_reducible refine ⟨_, isi_list_int, ?_⟩
  | with_reducible refine ⟨_, isi_list_bool, ?_⟩
  | with_reducible refine ⟨_, isi_list_str, ?_⟩
  | with_reducible refine ⟨_, isi_list_tuple, ?_⟩
  | with_reducible refine ⟨true, rfl, fun _ => ?_, fun h => absurd h (by decide)⟩
  | with_reducible refine ⟨false, rfl, fun h => absurd h (by decide), fun _ => ?_⟩
  | (fail_if_success with_reducible refine mul_shape ?_); (fail_if_success with_reducible refine mul2_shape ?_); with_reducible refine ⟨_, rfl, fun hb => ?_, fun hb => ?_⟩
  | (fail_if_success with_reducible refine mul_shape ?_); (fail_if_success with_reducible refine mul2_shape ?_); with_reducible refine ⟨_, rfl, ?_⟩
  | with_reducible refine ⟨fun hb => ?_, fun hb => ?_⟩
  | with_reducible exact ⟨rfl, rfl⟩
  | with_reducible refine ⟨(rfl : isLst _ = true), ?_⟩)
theorem rep_ok {A : Nat} (x : Nat) (h1 : 1 ≤ A) (h4 : A ≤ 4) : dMul2 (.tuple [.int x]) (.int A) = some (NT (List.replicate A x)) := by
  rcases (by omega : A = 1 ∨ A = 2 ∨ A = 3 ∨ A = 4) with rfl | rfl | rfl | rfl <;> rfl
theorem T_rep (p x y : Nat) : ∀ n : Nat, T p (List.replicate n x) (List.replicate n y) = n * stepN p x y
  | 0 => by rw [Nat.zero_mul]; rfl
  | n + 1 => by
    rw [List.replicate_succ, List.replicate_succ, T_cons, T_rep p x y n, Nat.succ_mul]
    omega
theorem half_step (H : Nat) (h : 1 ≤ H) : stepN (2 * H) 0 H = H := by
  unfold stepN fwd bwd
  rw [Nat.sub_zero, Nat.add_mod_right, Nat.zero_add, show 2 * H - H = H by omega, Nat.mod_eq_of_lt (by omega), Nat.min_self]
theorem eight : (ddL (nextL 8 [0, 3, 7, 5] (List.range 4))).length = 8 := by decide +kernel
theorem law_ok : ∀ ns : List Int, ns.length ≤ 63 → ∃ cp, m_law (List.replicate 6 none) (cup0 83 317 3917 2077502087 197 ns) = .ok (.rt (.bool true)) cp := by
  intro ns _
  suffices h : Wp (m_law (List.replicate 6 none) (cup0 83 317 3917 2077502087 197 ns)) fun o _ => o = .rt (.bool true) by
    obtain ⟨o, c, e, rfl⟩ := h.ok
    exact ⟨c, e⟩
  generalize cup0 83 317 3917 2077502087 197 ns = cp
  unfold m_law
  repeat walk_at "w"
  refine ⟨rfl, rfl, ?_⟩
  refine forGo_any (I := fun env c => ∃ z2, env = [none, none, z2, none, none, none]) ?_ ?_ _ _ ⟨none, rfl⟩
  · rintro d env c hd ⟨z2, rfl⟩
    refine ⟨_, rfl, ?_⟩
    repeat walk_at "w"
    refine w_ex (turns_right _) ?_
    rintro d2 c2 rfl
    repeat walk_at "w"
    exact ⟨_, rfl⟩
  · rintro env c ⟨z2, rfl⟩
    repeat walk_at "w"
    refine w_ex (rows_right _) ?_
    rintro d2 c2 rfl
    repeat walk_at "w"
    refine w_ex (rows_right _) ?_
    rintro d2 c2 rfl
    repeat walk_at "w"
    refine w_ex (rollOk _ (by decide) (by decide) _) ?_
    rintro d c3 ⟨r, rfl, r0, r1⟩
    repeat walk_at "w"
    refine w_ex (rollOk _ (by decide) (by decide) _) ?_
    rintro d c4 ⟨t, rfl, t0, t1⟩
    obtain ⟨q, rfl⟩ : ∃ q : Nat, r = (q : Int) := ⟨r.toNat, by omega⟩
    obtain ⟨k, rfl⟩ : ∃ k : Nat, t = (k : Int) := ⟨t.toNat, by omega⟩
    repeat walk_at "w"
    have e1 : (1 : Int) + (q : Int) = ((1 + q : Nat) : Int) := by omega
    have e2 : (1 : Int) + (k : Int) = ((1 + k : Nat) : Int) := by omega
    rw [e1, e2]
    have hA : 1 ≤ 1 + q ∧ 1 + q ≤ 4 := by omega
    have hH : 1 ≤ 1 + k ∧ 1 + k ≤ 4 := by omega
    generalize 1 + q = A at hA ⊢
    generalize 1 + k = H at hH ⊢
    refine ⟨.int ((2 * H : Nat) : Int), mul_nat (a := 2) (b := H) (by decide), ?_⟩
    repeat walk_at "w"
    refine ⟨_, rep_ok 0 hA.1 hA.2, ?_⟩
    repeat walk_at "w"
    have e3 : (((2 * H : Nat) : Int)) / 2 = (H : Int) := by omega
    rw [e3]
    refine ⟨_, rep_ok H hA.1 hA.2, ?_⟩
    repeat walk_at "w"
    have hm : ∀ x, x < 2 * H → List.replicate A x ∈ allS (2 * H) A := fun x hx => mem_allS.mpr ⟨List.length_replicate, fun y hy => by rw [(List.mem_replicate.mp hy).2]; exact hx⟩
    refine w_eq (turns_between_ok (a := A) (p := 2 * H) ⟨hA, by omega, by omega⟩ (hm 0 (by omega)) (hm H (by omega)) _) ?_
    rw [T_rep, half_step H hH.1]
    repeat walk_at "w"
    rw [e3]
    refine ⟨_, mul_nat (a := A) (b := H) (by omega), ?_⟩
    repeat walk_at "w"
    refine same_w (n := 8) trivial rfl ?_
    refine ⟨true, rfl, fun _ => ?_, fun z => by cases z⟩
    repeat walk_at "w"
    refine w_eq (show m_next_signs [Fm 4 8, NT [0, 3, 7, 5]] c4 = _ from next_signs_ok (a := 4) (p := 8) (s := [0, 3, 7, 5]) ⟨⟨by decide, by decide⟩, by decide, by decide⟩ (mem_allS.mpr ⟨rfl, by decide⟩) _) ?_
    repeat walk_at "w"
    refine same_w (n := 8) (e := .int 8) trivial ?_ ?_
    · rw [List.length_map]
      unfold srtU
      rw [(List.mergeSort_perm _ _).length_eq, eight]
      rfl
    repeat walk_at "w"
    rfl
end L_k14
namespace L_k14
open PySem PySem.Spec PyProof.Rows L2 MP MP.SI
/-! ### the text -/
def topS (i : Nat) : Stmt := PySem.Challenge.pw_semaphores_k14_whole_turns_of_arms.main.body.getD i (.Pass ⟨0, 0, 0, 0⟩)
abbrev s_law_cup : Stmt := topS 31
theorem sc_law_cup : FnScope ["script", "cell"] ["script"] (defScope s_law_cup) := ⟨rfl, rfl, rfl, by decide +kernel, rfl, by decide +kernel, by decide +kernel⟩
abbrev s_is_tuple_of : Stmt := topS 8
theorem sc_is_tuple_of : FnScope ["value", "least", "most"] ["value", "least", "most"] (defScope s_is_tuple_of) := ⟨rfl, rfl, rfl, by decide +kernel, rfl, by decide +kernel, by decide +kernel⟩
abbrev s_is_whole : Stmt := topS 6
theorem sc_is_whole : FnScope ["value"] ["value"] (defScope s_is_whole) := ⟨rfl, rfl, rfl, by decide +kernel, rfl, by decide +kernel, by decide +kernel⟩
abbrev s_fits_whole : Stmt := topS 7
theorem sc_fits_whole : FnScope ["value", "low", "high"] ["value", "low", "high"] (defScope s_fits_whole) := ⟨rfl, rfl, rfl, by decide +kernel, rfl, by decide +kernel, by decide +kernel⟩
abbrev s_fits_frame : Stmt := topS 13
theorem sc_fits_frame : FnScope ["value"] ["value"] (defScope s_fits_frame) := ⟨rfl, rfl, rfl, by decide +kernel, rfl, by decide +kernel, by decide +kernel⟩
abbrev s_need_frame : Stmt := topS 14
theorem sc_need_frame : FnScope ["value"] ["value"] (defScope s_need_frame) := ⟨rfl, rfl, rfl, by decide +kernel, rfl, by decide +kernel, by decide +kernel⟩
abbrev s_fits_sign : Stmt := topS 15
theorem sc_fits_sign : FnScope ["frame", "value", "one"] ["frame", "value"] (defScope s_fits_sign) := ⟨rfl, rfl, rfl, by decide +kernel, rfl, by decide +kernel, by decide +kernel⟩
abbrev s_need_sign : Stmt := topS 16
theorem sc_need_sign : FnScope ["frame", "value"] ["frame", "value"] (defScope s_need_sign) := ⟨rfl, rfl, rfl, by decide +kernel, rfl, by decide +kernel, by decide +kernel⟩
abbrev s_step_between : Stmt := topS 22
theorem sc_step_between : FnScope ["frame", "one", "other", "far"] ["frame", "one", "other"] (defScope s_step_between) := ⟨rfl, rfl, rfl, by decide +kernel, rfl, by decide +kernel, by decide +kernel⟩
abbrev s_turns_in : Stmt := topS 23
theorem sc_turns_in : FnScope ["frame", "one", "other", "first", "second"] ["frame", "one", "other"] (defScope s_turns_in) := ⟨rfl, rfl, rfl, by decide +kernel, rfl, by decide +kernel, by decide +kernel⟩
abbrev s_turns_between : Stmt := topS 26
theorem sc_turns_between : FnScope ["frame", "one", "other"] ["frame", "one", "other"] (defScope s_turns_between) := ⟨rfl, rfl, rfl, by decide +kernel, rfl, by decide +kernel, by decide +kernel⟩
abbrev s_law_same : Stmt := topS 34
theorem sc_law_same : FnScope ["told", "due", "at"] ["told", "due"] (defScope s_law_same) := ⟨rfl, rfl, rfl, by decide +kernel, rfl, by decide +kernel, by decide +kernel⟩
abbrev s_law_roll : Stmt := topS 32
theorem sc_law_roll : FnScope ["cup", "many", "found", "deep"] ["cup", "many"] (defScope s_law_roll) := ⟨rfl, rfl, rfl, by decide +kernel, rfl, by decide +kernel, by decide +kernel⟩
abbrev s_law_some : Stmt := topS 33
theorem sc_law_some : FnScope ["cup", "things"] ["cup", "things"] (defScope s_law_some) := ⟨rfl, rfl, rfl, by decide +kernel, rfl, by decide +kernel, by decide +kernel⟩
abbrev s_law_frame : Stmt := topS 36
theorem sc_law_frame : FnScope ["cup", "most", "frames", "arms", "places", "many", "turn"] ["cup", "most"] (defScope s_law_frame) := ⟨rfl, rfl, rfl, by decide +kernel, rfl, by decide +kernel, by decide +kernel⟩
abbrev s_law_turns : Stmt := topS 38
theorem sc_law_turns : FnScope ["frame", "one", "other", "total", "first", "second", "forth", "back"] ["frame", "one", "other"] (defScope s_law_turns) := ⟨rfl, rfl, rfl, by decide +kernel, rfl, by decide +kernel, by decide +kernel⟩
abbrev s_law_sign : Stmt := topS 37
theorem sc_law_sign : FnScope ["cup", "frame", "arm"] ["cup", "frame"] (defScope s_law_sign) := ⟨rfl, rfl, rfl, by decide +kernel, rfl, by decide +kernel, by decide +kernel⟩
abbrev s_behind : Stmt := topS 21
theorem sc_behind : FnScope ["frame", "sign", "place"] ["frame", "sign"] (defScope s_behind) := ⟨rfl, rfl, rfl, by decide +kernel, rfl, by decide +kernel, by decide +kernel⟩
abbrev s_from_behind : Stmt := topS 25
theorem sc_from_behind : FnScope ["frame", "sign"] ["frame", "sign"] (defScope s_from_behind) := ⟨rfl, rfl, rfl, by decide +kernel, rfl, by decide +kernel, by decide +kernel⟩
abbrev s_next_signs : Stmt := topS 27
theorem sc_next_signs : FnScope ["frame", "sign", "found", "arm", "place", "step"] ["frame", "sign"] (defScope s_next_signs) := ⟨rfl, rfl, rfl, by decide +kernel, rfl, by decide +kernel, by decide +kernel⟩
abbrev s_law_turns_right : Stmt := topS 39
theorem sc_law_turns_right : FnScope ["cup", "frame", "one", "other", "third", "due", "behind_v", "told", "near", "arm", "place", "sign"] ["cup"] (defScope s_law_turns_right) := ⟨rfl, rfl, rfl, by decide +kernel, rfl, by decide +kernel, by decide +kernel⟩
abbrev s_power : Stmt := topS 18
theorem sc_power : FnScope ["base", "many", "found", "turn"] ["base", "many"] (defScope s_power) := ⟨rfl, rfl, rfl, by decide +kernel, rfl, by decide +kernel, by decide +kernel⟩
abbrev s_all_many : Stmt := topS 19
theorem sc_all_many : FnScope ["frame"] ["frame"] (defScope s_all_many) := ⟨rfl, rfl, rfl, by decide +kernel, rfl, by decide +kernel, by decide +kernel⟩
abbrev s_need_listed : Stmt := topS 17
theorem sc_need_listed : FnScope ["frame", "limit"] ["frame", "limit"] (defScope s_need_listed) := ⟨rfl, rfl, rfl, by decide +kernel, rfl, by decide +kernel, by decide +kernel⟩
abbrev s_row_in : Stmt := topS 24
theorem sc_row_in : FnScope ["frame", "found", "arm", "longer", "at", "one", "places", "place"] ["frame"] (defScope s_row_in) := ⟨rfl, rfl, rfl, by decide +kernel, rfl, by decide +kernel, by decide +kernel⟩
abbrev s_one_step_row : Stmt := topS 28
theorem sc_one_step_row : FnScope ["frame"] ["frame"] (defScope s_one_step_row) := ⟨rfl, rfl, rfl, by decide +kernel, rfl, by decide +kernel, by decide +kernel⟩
abbrev s_law_all : Stmt := topS 35
theorem sc_law_all : FnScope ["frame", "found", "arm", "more", "one", "place"] ["frame"] (defScope s_law_all) := ⟨rfl, rfl, rfl, by decide +kernel, rfl, by decide +kernel, by decide +kernel⟩
abbrev s_law_is_row : Stmt := topS 40
theorem sc_law_is_row : FnScope ["frame", "value", "sign", "one", "other"] ["frame", "value"] (defScope s_law_is_row) := ⟨rfl, rfl, rfl, by decide +kernel, rfl, by decide +kernel, by decide +kernel⟩
abbrev s_law_near : Stmt := topS 41
theorem sc_law_near : FnScope ["cup", "frame", "row", "at", "to", "found", "odds", "sign", "place", "odd"] ["cup", "frame", "row"] (defScope s_law_near) := ⟨rfl, rfl, rfl, by decide +kernel, rfl, by decide +kernel, by decide +kernel⟩
abbrev s_signs_of : Stmt := topS 20
theorem sc_signs_of : FnScope ["frame", "found", "arm", "one", "place"] ["frame"] (defScope s_signs_of) := ⟨rfl, rfl, rfl, by decide +kernel, rfl, by decide +kernel, by decide +kernel⟩
abbrev s_is_one_step_row : Stmt := topS 29
theorem sc_is_one_step_row : FnScope ["frame", "value", "many", "steps", "one", "two", "step"] ["frame", "value"] (defScope s_is_one_step_row) := ⟨rfl, rfl, rfl, by decide +kernel, rfl, by decide +kernel, by decide +kernel⟩
abbrev s_law_rows_right : Stmt := topS 42
theorem sc_law_rows_right : FnScope ["cup", "frame", "row", "value"] ["cup"] (defScope s_law_rows_right) := ⟨rfl, rfl, rfl, by decide +kernel, rfl, by decide +kernel, by decide +kernel⟩
abbrev s_law : Stmt := topS 43
theorem sc_law : FnScope ["script", "cup", "turn", "arms", "places", "told"] ["script"] (defScope s_law) := ⟨rfl, rfl, rfl, by decide +kernel, rfl, by decide +kernel, by decide +kernel⟩
/-! ### what the top holds -/
structure Top (K : PySem.W.Frag) (mg : Str → Option Value) : Prop where
  f_law_cup : FnD K mg "_law_cup" s_law_cup ["script"]
  f_is_tuple_of : FnD K mg "is_tuple_of" s_is_tuple_of ["value", "least", "most"]
  f_is_whole : FnD K mg "is_whole" s_is_whole ["value"]
  f_fits_whole : FnD K mg "fits_whole" s_fits_whole ["value", "low", "high"]
  f_fits_frame : FnD K mg "fits_frame" s_fits_frame ["value"]
  f_need_frame : FnD K mg "need_frame" s_need_frame ["value"]
  f_fits_sign : FnD K mg "fits_sign" s_fits_sign ["frame", "value"]
  f_need_sign : FnD K mg "need_sign" s_need_sign ["frame", "value"]
  f_step_between : FnD K mg "step_between" s_step_between ["frame", "one", "other"]
  f_turns_in : FnD K mg "turns_in" s_turns_in ["frame", "one", "other"]
  f_turns_between : FnD K mg "turns_between" s_turns_between ["frame", "one", "other"]
  f_law_same : FnD K mg "_law_same" s_law_same ["told", "due"]
  f_law_roll : FnD K mg "_law_roll" s_law_roll ["cup", "many"]
  f_law_some : FnD K mg "_law_some" s_law_some ["cup", "things"]
  f_law_frame : FnD K mg "_law_frame" s_law_frame ["cup", "most"]
  f_law_turns : FnD K mg "_law_turns" s_law_turns ["frame", "one", "other"]
  f_law_sign : FnD K mg "_law_sign" s_law_sign ["cup", "frame"]
  f_behind : FnD K mg "behind" s_behind ["frame", "sign"]
  f_from_behind : FnD K mg "from_behind" s_from_behind ["frame", "sign"]
  f_next_signs : FnD K mg "next_signs" s_next_signs ["frame", "sign"]
  f_law_turns_right : FnD K mg "_law_turns_right" s_law_turns_right ["cup"]
  f_power : FnD K mg "power" s_power ["base", "many"]
  f_all_many : FnD K mg "all_many" s_all_many ["frame"]
  f_need_listed : FnD K mg "need_listed" s_need_listed ["frame", "limit"]
  f_row_in : FnD K mg "row_in" s_row_in ["frame"]
  f_one_step_row : FnD K mg "one_step_row" s_one_step_row ["frame"]
  f_law_all : FnD K mg "_law_all" s_law_all ["frame"]
  f_law_is_row : FnD K mg "_law_is_row" s_law_is_row ["frame", "value"]
  f_law_near : FnD K mg "_law_near" s_law_near ["cup", "frame", "row"]
  f_signs_of : FnD K mg "signs_of" s_signs_of ["frame"]
  f_is_one_step_row : FnD K mg "is_one_step_row" s_is_one_step_row ["frame", "value"]
  f_law_rows_right : FnD K mg "_law_rows_right" s_law_rows_right ["cup"]
  f_law : FnD K mg "law" s_law ["script"]
  b_abs : mg "abs" = none
  b_all : mg "all" = none
  b_bool : mg "bool" = none
  b_enumerate : mg "enumerate" = none
  b_int : mg "int" = none
  b_isinstance : mg "isinstance" = none
  b_len : mg "len" = none
  b_list : mg "list" = none
  b_min : mg "min" = none
  b_range : mg "range" = none
  b_set : mg "set" = none
  b_sorted : mg "sorted" = none
  b_str : mg "str" = none
  b_sum : mg "sum" = none
  b_tuple : mg "tuple" = none
  b_zip : mg "zip" = none
  c_ARMS : GC mg "ARMS" (.int 4)
  c_LISTED : GC mg "LISTED" (.int 512)
  c_PLACES : GC mg "PLACES" (.int 8)
section
variable {P : Program} {w : World} {K : PySem.W.Frag} {mg : Str → Option Value} {base : Heap}
theorem v_is_tuple_of (T : Top K mg) : FnV P w K mg base 1 "is_tuple_of" ["value", "least", "most"] false m_is_tuple_of := by
  exact fnv_of (O' := []) T.f_is_tuple_of sc_is_tuple_of fun cdv f A outer s H E hr hu hu2 hc hN zp hp => (qss_one (q_ret (q_and (q_isi T.b_isinstance T.b_tuple rfl (q_pk 0)) (q_one (QF.e (q_chn (ops_le hu) (ops_le hu) (q_pk 1) (QE.p (QF.e (q_callB cas_len T.b_len rfl (qpa_cons (q_pk 0) qpa_nil)))) (q_pk 2)))))))
theorem v_is_whole (T : Top K mg) : FnV P w K mg base 1 "is_whole" ["value"] false m_is_whole := by
  exact fnv_of (O' := []) T.f_is_whole sc_is_whole fun cdv f A outer s H E hr hu hu2 hc hN zp hp => (qss_one (q_ret (q_and (q_isi T.b_isinstance T.b_int rfl (q_pk 0)) (q_one (q_not (q_isi T.b_isinstance T.b_bool rfl (q_pk 0)))))))
theorem v_fits_whole (T : Top K mg) : FnV P w K mg base 2 "fits_whole" ["value", "low", "high"] false m_fits_whole := by
  have G_is_whole := v_is_whole (P := P) (w := w) (base := base) T
  exact fnv_of (O' := []) T.f_fits_whole sc_fits_whole fun cdv f A outer s H E hr hu hu2 hc hN zp hp => (qss_one (q_ret (q_and (q_call G_is_whole (hr.mono (by decide)) zp (qa_cons (q_nm 0) qa_nil)) (q_one (QF.e (q_chn (ops_le hu) (ops_le hu) (q_pk 1) (q_pk 0) (q_pk 2)))))))
theorem v_fits_frame (T : Top K mg) : FnV P w K mg base 3 "fits_frame" ["value"] false m_fits_frame := by
  have G_fits_whole := v_fits_whole (P := P) (w := w) (base := base) T
  have G_is_tuple_of := v_is_tuple_of (P := P) (w := w) (base := base) T
  exact fnv_of (O' := []) T.f_fits_frame sc_fits_frame fun cdv f A outer s H E hr hu hu2 hc hN zp hp => (qss_one (q_ret (q_and (q_call G_is_tuple_of (hr.mono (by decide)) zp (qa_cons (q_nm 0) (qa_cons q_int (qa_cons q_int qa_nil)))) (q_and (q_call G_fits_whole (hr.mono (by decide)) zp (qa_cons (q_ix (ixs hu) (q_pk 0) (QE.p q_int)) (qa_cons q_int (qa_cons (q_gintC T.c_ARMS) qa_nil)))) (q_one (q_call G_fits_whole (hr.mono (by decide)) zp (qa_cons (q_ix (ixs hu) (q_pk 0) (QE.p q_int)) (qa_cons q_int (qa_cons (q_gintC T.c_PLACES) qa_nil)))))))))
theorem v_need_frame (T : Top K mg) : FnV P w K mg base 4 "need_frame" ["value"] false m_need_frame := by
  have G_fits_frame := v_fits_frame (P := P) (w := w) (base := base) T
  exact fnv_of (O' := []) T.f_need_frame sc_need_frame fun cdv f A outer s H E hr hu hu2 hc hN zp hp => (qss_one (q_ifS (q_tnot (q_tval (q_call G_fits_frame (hr.mono (by decide)) zp (qa_cons (q_nm 0) qa_nil)))) (qss_one q_never) qss_nil))
theorem v_fits_sign (T : Top K mg) : FnV P w K mg base 3 "fits_sign" ["frame", "value"] false m_fits_sign := by
  have G_fits_whole := v_fits_whole (P := P) (w := w) (base := base) T
  have G_is_tuple_of := v_is_tuple_of (P := P) (w := w) (base := base) T
  exact fnv_of (O' := []) T.f_fits_sign sc_fits_sign fun cdv f A outer s H E hr hu hu2 hc hN zp hp => (qss_one (q_ret (q_and (q_call G_is_tuple_of (hr.mono (by decide)) zp (qa_cons (q_nm 1) (qa_cons (q_ix (ixs hu) (q_pk 0) (QE.p q_int)) (qa_cons (q_ix (ixs hu) (q_pk 0) (QE.p q_int)) qa_nil)))) (q_one (QF.e (q_callB (cas_all hc) T.b_all rfl (qpa_cons (QE.p (QF.e (q_lc (own := [("one", 2)]) hc hN (qi_e (q_pk 1)) (blkOk_by (own := [("one", 2)]) (by rfl)) (fun _ _ _ _ _ => (qg_nm 2 hN)) (fun _ _ _ _ _ => qts_nil) (fun _ _ _ _ _ => (q_call G_fits_whole (hr.mono (by decide)) zp_blk (qa_cons (q_nm 2) (qa_cons q_int (qa_cons (QF.e (q_bin ops_sub (QE.p (q_ix (ixs hu) (q_pk 0) (QE.p q_int))) (QE.p q_int))) qa_nil)))))))) qpa_nil)))))))
theorem v_need_sign (T : Top K mg) : FnV P w K mg base 4 "need_sign" ["frame", "value"] false m_need_sign := by
  have G_fits_sign := v_fits_sign (P := P) (w := w) (base := base) T
  exact fnv_of (O' := []) T.f_need_sign sc_need_sign fun cdv f A outer s H E hr hu hu2 hc hN zp hp => (qss_one (q_ifS (q_tnot (q_tval (q_call G_fits_sign (hr.mono (by decide)) zp (qa_cons (q_nm 0) (qa_cons (q_nm 1) qa_nil))))) (qss_one q_never) qss_nil))
theorem v_step_between (T : Top K mg) : FnV P w K mg base 1 "step_between" ["frame", "one", "other"] false m_step_between := by
  exact fnv_of (O' := []) T.f_step_between sc_step_between fun cdv f A outer s H E hr hu hu2 hc hN zp hp => (qss_cons (q_set hN (QF.e (q_callB cas_abs T.b_abs rfl (qpa_cons (QE.p (QF.e (q_bin ops_sub (q_pk 1) (q_pk 2)))) qpa_nil))))
    (qss_one (q_ret (QF.e (q_callB (cas_min2 hu hu2 hc) T.b_min rfl (qpa_cons (q_pk 3) (qpa_cons (QE.p (QF.e (q_bin ops_sub (QE.p (q_ix (ixs hu) (q_pk 0) (QE.p q_int))) (q_pk 3)))) qpa_nil)))))))
theorem v_turns_in (T : Top K mg) : FnV P w K mg base 2 "turns_in" ["frame", "one", "other"] false m_turns_in := by
  have G_step_between := v_step_between (P := P) (w := w) (base := base) T
  exact fnv_of (O' := []) T.f_turns_in sc_turns_in fun cdv f A outer s H E hr hu hu2 hc hN zp hp => (qss_one (q_ret (QF.e (q_callB (cas_sum hc) T.b_sum rfl (qpa_cons (QE.p (QF.e (q_lc (own := [("first", 3), ("second", 4)]) hc hN (QJ.i (qj_zip (q_nm 1) (q_nm 2) T.b_zip)) (blkOk_by (own := [("first", 3), ("second", 4)]) (by rfl)) (fun _ _ _ _ _ => (qg_tup2 hc (qgs_cons (qg_nm 3 hN) (qgs_cons (qg_nm 4 hN) qgs_nil)))) (fun _ _ _ _ _ => qts_nil) (fun _ _ _ _ _ => (q_call G_step_between (hr.mono (by decide)) zp_blk (qa_cons (q_nm 0) (qa_cons (q_nm 3) (qa_cons (q_nm 4) qa_nil)))))))) qpa_nil)))))
theorem v_turns_between (T : Top K mg) : FnV P w K mg base 5 "turns_between" ["frame", "one", "other"] false m_turns_between := by
  have G_need_frame := v_need_frame (P := P) (w := w) (base := base) T
  have G_need_sign := v_need_sign (P := P) (w := w) (base := base) T
  have G_turns_in := v_turns_in (P := P) (w := w) (base := base) T
  exact fnv_of (O' := []) T.f_turns_between sc_turns_between fun cdv f A outer s H E hr hu hu2 hc hN zp hp => (qss_cons (q_drop (q_call G_need_frame (hr.mono (by decide)) zp (qa_cons (q_nm 0) qa_nil)))
    (qss_cons (q_drop (q_call G_need_sign (hr.mono (by decide)) zp (qa_cons (q_nm 0) (qa_cons (q_nm 1) qa_nil))))
    (qss_cons (q_drop (q_call G_need_sign (hr.mono (by decide)) zp (qa_cons (q_nm 0) (qa_cons (q_nm 2) qa_nil))))
    (qss_one (q_ret (q_call G_turns_in (hr.mono (by decide)) zp (qa_cons (q_nm 0) (qa_cons (q_nm 1) (qa_cons (q_nm 2) qa_nil)))))))))
theorem v_law_same (T : Top K mg) : ∀ n : Nat, FnV P w K mg base (n + 1) "_law_same" ["told", "due"] false (m_law_same n)
  | 0 => fnv_never T.f_law_same sc_law_same
  | n + 1 => by
    have G_law_same := v_law_same T n
    exact fnv_of (O' := []) T.f_law_same sc_law_same fun cdv f A outer s H E hr hu hu2 hc hN zp hp => (qss_cons (q_ifS (q_tval (q_isi T.b_isinstance T.b_tuple rfl (q_pk 1))) (qss_cons (q_ifS (QW.t (q_wor (q_tnot (q_tval (q_isi T.b_isinstance T.b_tuple rfl (q_pk 0)))) (q_wor1 (q_tcmp (ops_ne hu) (QE.p (QF.e (q_callB cas_len T.b_len rfl (qpa_cons (q_pk 0) qpa_nil)))) (QE.p (QF.e (q_callB cas_len T.b_len rfl (qpa_cons (q_pk 1) qpa_nil)))))))) (qss_one (q_ret q_bl)) qss_nil)
    (qss_one (q_ret (QF.e (q_callB (cas_all hc) T.b_all rfl (qpa_cons (QE.p (QF.e (q_lc (own := [("at", 2)]) hc hN (QJ.i (qj_rg1 (QF.e (q_callB cas_len T.b_len rfl (qpa_cons (q_pk 1) qpa_nil))) T.b_range)) (blkOk_by (own := [("at", 2)]) (by rfl)) (fun _ _ _ _ _ => (qg_nm 2 hN)) (fun _ _ _ _ _ => qts_nil) (fun _ _ _ _ _ => (q_call G_law_same hr zp_blk (qa_cons (q_ix (ixs hu) (q_pk 0) (q_pk 2)) (qa_cons (q_ix (ixs hu) (q_pk 1) (q_pk 2)) qa_nil))))))) qpa_nil)))))) qss_nil)
    (qss_cons (q_ifS (q_tcmp ops_is (q_pk 1) (QE.p q_non)) (qss_one (q_ret (QF.e (q_cmp ops_is (q_pk 0) (QE.p q_non))))) qss_nil)
    (qss_cons (q_ifS (q_tval (q_isi T.b_isinstance T.b_bool rfl (q_pk 1))) (qss_one (q_ret (QF.e (q_ifF (q_tval (q_nm 1)) (q_cmp ops_is (q_pk 0) (QE.p q_bl)) (q_cmp ops_is (q_pk 0) (QE.p q_bl)))))) qss_nil)
    (qss_cons (q_ifS (q_tval (q_isi T.b_isinstance T.b_int rfl (q_pk 1))) (qss_one (q_ret (q_and (q_isi T.b_isinstance T.b_int rfl (q_pk 0)) (q_and (q_not (q_isi T.b_isinstance T.b_bool rfl (q_pk 0))) (q_one (QF.e (q_cmp (ops_eq hu) (QE.p (QF.e (q_callTy cas_int T.b_int rfl (qpa_cons (q_pk 0) qpa_nil)))) (q_pk 1)))))))) qss_nil)
    (qss_one (q_ret (q_and (q_isi T.b_isinstance T.b_str rfl (q_pk 0)) (q_one (QF.e (q_cmp (ops_eq hu) (QE.p (QF.e (q_callTy cas_str T.b_str rfl (qpa_cons (q_pk 0) qpa_nil)))) (q_pk 1)))))))))))
theorem v_law_roll (T : Top K mg) : FnV P w K mg base 1 "_law_roll" ["cup", "many"] true m_law_roll := by
  exact fnv_of (O' := []) T.f_law_roll sc_law_roll fun cdv f A outer s H E hr hu hu2 hc hN zp hp => (qss_cons (q_ifS (q_tcmp (ops_gt hu) (QE.p (q_cup false)) (QE.p q_int)) (qss_cons (q_set hN (QF.e (q_bin ops_mod (QE.p (QF.e (q_callTy cas_int T.b_int rfl (qpa_cons (QE.p (q_cup false)) qpa_nil)))) (q_pk 1))))
    (qss_cons (q_cupS false (QF.e (q_bin ops_div (QE.p (q_cup false)) (q_pk 1))))
    (qss_one (q_ret (q_nm 2))))) qss_nil)
    (qss_cons (q_cupS true (QF.e (q_bin ops_mod (QE.p (QF.e (q_callTy cas_int T.b_int rfl (qpa_cons (QE.p (QF.e (q_bin ops_add (QE.p (QF.e (q_bin ops_mul (QE.p (q_cup true)) (QE.p q_int)))) (QE.p q_int)))) qpa_nil)))) (QE.p q_int))))
    (qss_cons (q_set hN (QF.e (q_bin ops_mod (QE.p (QF.e (q_callTy cas_int T.b_int rfl (qpa_cons (QE.p (QF.e (q_bin ops_mul (QE.p (q_cup true)) (QE.p (QF.e (q_bin ops_add (QE.p (q_cup true)) (QE.p q_int))))))) qpa_nil)))) (QE.p q_int))))
    (qss_one (q_ret (QF.e (q_bin ops_mod (QE.p (QF.e (q_callTy cas_int T.b_int rfl (qpa_cons (QE.p (QF.e (q_bin ops_div (q_pk 3) (QE.p q_int)))) qpa_nil)))) (q_pk 1))))))))
theorem v_law_some (T : Top K mg) : FnV P w K mg base 2 "_law_some" ["cup", "things"] true m_law_some := by
  have G_law_roll := v_law_roll (P := P) (w := w) (base := base) T
  exact fnv_of (O' := []) T.f_law_some sc_law_some fun cdv f A outer s H E hr hu hu2 hc hN zp hp => (qss_one (q_ret (q_ix (ixs hu) (q_pk 1) (QE.p (q_callC G_law_roll (hr.mono (by decide)) zp (qa_cons (QF.e (q_callB cas_len T.b_len rfl (qpa_cons (q_pk 1) qpa_nil))) qa_nil))))))
theorem v_law_frame (T : Top K mg) : FnV P w K mg base 3 "_law_frame" ["cup", "most"] true m_law_frame := by
  have G_law_some := v_law_some (P := P) (w := w) (base := base) T
  exact fnv_of (O' := []) T.f_law_frame sc_law_frame fun cdv f A outer s H E hr hu hu2 hc hN zp hp => (qss_cons (q_set hN (QF.e (q_lst qa_nil)))
    (qss_cons (q_for hp hc (qj_rg2 q_int q_int T.b_range) (qg_nm 3 hN) (qss_one (q_for hp hc (qj_rg2 q_int q_int T.b_range) (qg_nm 4 hN) (qss_cons (q_set hN (q_nm 4))
    (qss_cons (q_for hp hc (qj_rg1 (QF.e (q_bin ops_sub (q_pk 3) (QE.p q_int))) T.b_range) (qg_nm 6 hN) (qss_one (q_set hN (QF.e (q_bin ops_mul (q_pk 5) (q_pk 4))))))
    (qss_one (q_set hN (QF.e (q_bin ops_add (q_pk 2) (QE.p (QF.e (q_ifF (q_tcmp (ops_le hu) (q_pk 5) (q_pk 1)) (q_lst (qa_cons (q_tup (qa_cons (q_nm 3) (qa_cons (q_nm 4) qa_nil))) qa_nil)) (q_lst qa_nil)))))))))))))
    (qss_one (q_ret (q_callC G_law_some (hr.mono (by decide)) zp (qa_cons (q_nm 2) qa_nil))))))
theorem v_law_turns (T : Top K mg) : FnV P w K mg base 1 "_law_turns" ["frame", "one", "other"] false m_law_turns := by
  exact fnv_of (O' := []) T.f_law_turns sc_law_turns fun cdv f A outer s H E hr hu hu2 hc hN zp hp => (qss_cons (q_set hN q_int)
    (qss_cons (q_for hp hc (qj_zip (q_nm 1) (q_nm 2) T.b_zip) (qg_tup2 hc (qgs_cons (qg_nm 4 hN) (qgs_cons (qg_nm 5 hN) qgs_nil))) (qss_cons (q_asg (q_tup (qa_cons q_int (qa_cons q_int qa_nil))) (qg_tup2 hc (qgs_cons (qg_nm 6 hN) (qgs_cons (qg_nm 7 hN) qgs_nil))))
    (qss_cons (q_while hp (q_tcmp (ops_ne hu) (QE.p (QF.e (q_bin ops_mod (QE.p (QF.e (q_bin ops_add (q_pk 4) (q_pk 6)))) (QE.p (q_ix (ixs hu) (q_pk 0) (QE.p q_int)))))) (q_pk 5)) (qss_one (q_set hN (QF.e (q_bin ops_add (q_pk 6) (QE.p q_int))))))
    (qss_cons (q_while hp (q_tcmp (ops_ne hu) (QE.p (QF.e (q_bin ops_mod (QE.p (QF.e (q_bin ops_sub (q_pk 4) (q_pk 7)))) (QE.p (q_ix (ixs hu) (q_pk 0) (QE.p q_int)))))) (q_pk 5)) (qss_one (q_set hN (QF.e (q_bin ops_add (q_pk 7) (QE.p q_int))))))
    (qss_one (q_set hN (QF.e (q_bin ops_add (q_pk 3) (QE.p (QF.e (q_callB (cas_min2 hu hu2 hc) T.b_min rfl (qpa_cons (q_pk 6) (qpa_cons (q_pk 7) qpa_nil)))))))))))))
    (qss_one (q_ret (q_nm 3)))))
theorem v_law_sign (T : Top K mg) : FnV P w K mg base 2 "_law_sign" ["cup", "frame"] true m_law_sign := by
  have G_law_roll := v_law_roll (P := P) (w := w) (base := base) T
  exact fnv_of (O' := []) T.f_law_sign sc_law_sign fun cdv f A outer s H E hr hu hu2 hc hN zp hp => (qss_one (q_ret (QF.e (q_callTy cas_tuple T.b_tuple rfl (qpa_cons (QE.p (QF.e (q_lc (own := [("arm", 2)]) hc hN (QJ.i (qj_rg1 (q_ix (ixs hu) (q_pk 1) (QE.p q_int)) T.b_range)) (blkOk_by (own := [("arm", 2)]) (by rfl)) (fun _ _ _ _ _ => (qg_nm 2 hN)) (fun _ _ _ _ _ => qts_nil) (fun _ _ _ _ _ => (q_callC G_law_roll (hr.mono (by decide)) zp_blk (qa_cons (q_ix (ixs hu) (q_pk 1) (QE.p q_int)) qa_nil)))))) qpa_nil)))))
theorem v_behind (T : Top K mg) : FnV P w K mg base 1 "behind" ["frame", "sign"] false m_behind := by
  exact fnv_of (O' := []) T.f_behind sc_behind fun cdv f A outer s H E hr hu hu2 hc hN zp hp => (qss_one (q_ret (QF.e (q_callTy cas_tuple T.b_tuple rfl (qpa_cons (QE.p (QF.e (q_lc (own := [("place", 2)]) hc hN (qi_e (QE.p (QF.e (q_rv (q_pk 1))))) (blkOk_by (own := [("place", 2)]) (by rfl)) (fun _ _ _ _ _ => (qg_nm 2 hN)) (fun _ _ _ _ _ => qts_nil) (fun _ _ _ _ _ => (QF.e (q_bin ops_mod (QE.p (QF.e (q_bin ops_sub (QE.p (q_ix (ixs hu) (q_pk 0) (QE.p q_int))) (q_pk 2)))) (QE.p (q_ix (ixs hu) (q_pk 0) (QE.p q_int))))))))) qpa_nil)))))
theorem v_from_behind (T : Top K mg) : FnV P w K mg base 5 "from_behind" ["frame", "sign"] false m_from_behind := by
  have G_need_frame := v_need_frame (P := P) (w := w) (base := base) T
  have G_need_sign := v_need_sign (P := P) (w := w) (base := base) T
  have G_behind := v_behind (P := P) (w := w) (base := base) T
  exact fnv_of (O' := []) T.f_from_behind sc_from_behind fun cdv f A outer s H E hr hu hu2 hc hN zp hp => (qss_cons (q_drop (q_call G_need_frame (hr.mono (by decide)) zp (qa_cons (q_nm 0) qa_nil)))
    (qss_cons (q_drop (q_call G_need_sign (hr.mono (by decide)) zp (qa_cons (q_nm 0) (qa_cons (q_nm 1) qa_nil))))
    (qss_one (q_ret (q_call G_behind (hr.mono (by decide)) zp (qa_cons (q_nm 0) (qa_cons (q_nm 1) qa_nil)))))))
theorem v_next_signs (T : Top K mg) : FnV P w K mg base 5 "next_signs" ["frame", "sign"] false m_next_signs := by
  have G_need_frame := v_need_frame (P := P) (w := w) (base := base) T
  have G_need_sign := v_need_sign (P := P) (w := w) (base := base) T
  exact fnv_of (O' := []) T.f_next_signs sc_next_signs fun cdv f A outer s H E hr hu hu2 hc hN zp hp => (qss_cons (q_drop (q_call G_need_frame (hr.mono (by decide)) zp (qa_cons (q_nm 0) qa_nil)))
    (qss_cons (q_drop (q_call G_need_sign (hr.mono (by decide)) zp (qa_cons (q_nm 0) (qa_cons (q_nm 1) qa_nil))))
    (qss_cons (q_setF hN (q_lst qa_nil))
    (qss_cons (q_for hp hc (qj_enum (q_nm 1) T.b_enumerate) (qg_tup2 hc (qgs_cons (qg_nm 3 hN) (qgs_cons (qg_nm 4 hN) qgs_nil))) (qss_one (q_for hp hc (qj_e (q_tup (qa_cons q_int (qa_cons (q_neg q_int) qa_nil)))) (qg_nm 5 hN) (qss_one (q_app 2 (QF.e (q_bin ops_add (QE.p (QF.e (q_bin ops_add (QE.p (QF.e (q_sl (q_pk 1) qo_n (qo_s (q_nm 3))))) (QE.p (q_tup (qa_cons (QF.e (q_bin ops_mod (QE.p (QF.e (q_bin ops_add (q_pk 4) (q_pk 5)))) (QE.p (q_ix (ixs hu) (q_pk 0) (QE.p q_int))))) qa_nil)))))) (QE.p (QF.e (q_sl (q_pk 1) (qo_s (QF.e (q_bin ops_add (q_pk 3) (QE.p q_int)))) qo_n))))))))))
    (qss_one (QS.weak (O2 := []) (q_ret (QF.e (q_callTy cas_tuple T.b_tuple rfl (qpa_cons (QE.p (QF.e (q_sortSet hc hu (q_nm 2) T.b_sorted T.b_set))) qpa_nil))))))))))
theorem v_law_turns_right (T : Top K mg) : FnV P w K mg base 10 "_law_turns_right" ["cup"] true m_law_turns_right := by
  have G_law_frame := v_law_frame (P := P) (w := w) (base := base) T
  have G_law_sign := v_law_sign (P := P) (w := w) (base := base) T
  have G_law_turns := v_law_turns (P := P) (w := w) (base := base) T
  have G_turns_between := v_turns_between (P := P) (w := w) (base := base) T
  have G_from_behind := v_from_behind (P := P) (w := w) (base := base) T
  have G_law_same := v_law_same (P := P) (w := w) (base := base) T 8
  have G_next_signs := v_next_signs (P := P) (w := w) (base := base) T
  exact fnv_of (O' := []) T.f_law_turns_right sc_law_turns_right fun cdv f A outer s H E hr hu hu2 hc hN zp hp => (qss_cons (q_set hN (q_callC G_law_frame (hr.mono (by decide)) zp (qa_cons q_int qa_nil)))
    (qss_cons (q_par3 hc hN (qx_e (q_callC G_law_sign (hr.mono (by decide)) zp (qa_cons (q_nm 1) qa_nil))) (qx_e (q_callC G_law_sign (hr.mono (by decide)) zp (qa_cons (q_nm 1) qa_nil))) (qx_e (q_callC G_law_sign (hr.mono (by decide)) zp (qa_cons (q_nm 1) qa_nil))))
    (qss_cons (q_set hN (q_call G_law_turns (hr.mono (by decide)) zp (qa_cons (q_nm 1) (qa_cons (q_nm 2) (qa_cons (q_nm 3) qa_nil)))))
    (qss_cons (q_set hN (q_call G_turns_between (hr.mono (by decide)) zp (qa_cons (q_nm 1) (qa_cons (q_call G_from_behind (hr.mono (by decide)) zp (qa_cons (q_nm 1) (qa_cons (q_nm 2) qa_nil))) (qa_cons (q_call G_from_behind (hr.mono (by decide)) zp (qa_cons (q_nm 1) (qa_cons (q_nm 3) qa_nil))) qa_nil)))))
    (qss_cons (q_set hN (q_tup (qa_cons (q_call G_turns_between (hr.mono (by decide)) zp (qa_cons (q_nm 1) (qa_cons (q_nm 2) (qa_cons (q_nm 3) qa_nil)))) (qa_cons (q_call G_turns_between (hr.mono (by decide)) zp (qa_cons (q_nm 1) (qa_cons (q_nm 3) (qa_cons (q_nm 2) qa_nil)))) (qa_cons (q_nm 6) qa_nil)))))
    (qss_cons (q_ifS (QW.t (q_wor (q_tnot (q_tval (q_call G_law_same (hr.mono (by decide)) zp (qa_cons (q_nm 7) (qa_cons (q_tup (qa_cons (q_nm 5) (qa_cons (q_nm 5) (qa_cons (q_nm 5) qa_nil)))) qa_nil))))) (q_wor1 (q_tcmp (ops_gt hu) (q_pk 5) (QE.p (QF.e (q_bin ops_add (QE.p (q_call G_law_turns (hr.mono (by decide)) zp (qa_cons (q_nm 1) (qa_cons (q_nm 2) (qa_cons (q_nm 4) qa_nil))))) (QE.p (q_call G_law_turns (hr.mono (by decide)) zp (qa_cons (q_nm 1) (qa_cons (q_nm 4) (qa_cons (q_nm 3) qa_nil)))))))))))) (qss_one (q_ret q_bl)) qss_nil)
    (qss_cons (q_setF hN q_dnew)
    (qss_cons (q_for hp hc (qj_rg1 (q_ix (ixs hu) (q_pk 1) (QE.p q_int)) T.b_range) (qg_nm 9 hN) (qss_one (q_for hp hc (qj_rg1 (q_ix (ixs hu) (q_pk 1) (QE.p q_int)) T.b_range) (qg_nm 10 hN) (qss_cons (q_set hN (QF.e (q_bin ops_add (QE.p (QF.e (q_bin ops_add (QE.p (QF.e (q_sl (q_pk 2) qo_n (qo_s (q_nm 9))))) (QE.p (q_tup (qa_cons (q_nm 10) qa_nil)))))) (QE.p (QF.e (q_sl (q_pk 2) (qo_s (QF.e (q_bin ops_add (q_pk 9) (QE.p q_int)))) qo_n))))))
    (qss_one (q_ifS (q_tcmp (ops_eq hu) (QE.p (q_call G_law_turns (hr.mono (by decide)) zp (qa_cons (q_nm 1) (qa_cons (q_nm 2) (qa_cons (q_nm 11) qa_nil))))) (QE.p q_int)) (qss_one (q_put 8 hu (q_nm 11) q_bl)) qss_nil))))))
    (qss_one (q_ret (q_call G_law_same (hr.mono (by decide)) zp (qa_cons (q_call G_next_signs (hr.mono (by decide)) zp (qa_cons (q_nm 1) (qa_cons (q_nm 2) qa_nil))) (qa_cons (QF.e (q_callTy cas_tuple T.b_tuple rfl (qpa_cons (QE.p (QF.e (q_callB (cas_sorted4 hc hu) T.b_sorted rfl (qpa_cons (q_pk 8) qpa_nil)))) qpa_nil))) qa_nil)))))))))))))
theorem v_power (T : Top K mg) : FnV P w K mg base 1 "power" ["base", "many"] false m_power := by
  exact fnv_of (O' := []) T.f_power sc_power fun cdv f A outer s H E hr hu hu2 hc hN zp hp => (qss_cons (q_set hN q_int)
    (qss_cons (q_for hp hc (qj_rg1 (q_nm 1) T.b_range) (qg_nm 3 hN) (qss_one (q_set hN (QF.e (q_bin ops_mul (q_pk 2) (q_pk 0))))))
    (qss_one (q_ret (q_nm 2)))))
theorem v_all_many (T : Top K mg) : FnV P w K mg base 2 "all_many" ["frame"] false m_all_many := by
  have G_power := v_power (P := P) (w := w) (base := base) T
  exact fnv_of (O' := []) T.f_all_many sc_all_many fun cdv f A outer s H E hr hu hu2 hc hN zp hp => (qss_one (q_ret (q_call G_power (hr.mono (by decide)) zp (qa_cons (q_ix (ixs hu) (q_pk 0) (QE.p q_int)) (qa_cons (q_ix (ixs hu) (q_pk 0) (QE.p q_int)) qa_nil)))))
theorem v_need_listed (T : Top K mg) : FnV P w K mg base 5 "need_listed" ["frame", "limit"] false m_need_listed := by
  have G_need_frame := v_need_frame (P := P) (w := w) (base := base) T
  have G_all_many := v_all_many (P := P) (w := w) (base := base) T
  exact fnv_of (O' := []) T.f_need_listed sc_need_listed fun cdv f A outer s H E hr hu hu2 hc hN zp hp => (qss_cons (q_drop (q_call G_need_frame (hr.mono (by decide)) zp (qa_cons (q_nm 0) qa_nil)))
    (qss_one (q_ifS (q_tcmp (ops_gt hu) (QE.p (q_call G_all_many (hr.mono (by decide)) zp (qa_cons (q_nm 0) qa_nil))) (q_pk 1)) (qss_one q_never) qss_nil)))
theorem v_row_in (T : Top K mg) : FnV P w K mg base 1 "row_in" ["frame"] false m_row_in := by
  exact fnv_of (O' := []) T.f_row_in sc_row_in fun cdv f A outer s H E hr hu hu2 hc hN zp hp => (qss_cons (q_set hN (QF.e (q_lst (qa_cons (q_tup qa_nil) qa_nil))))
    (qss_cons (q_for hp hc (qj_rg1 (q_ix (ixs hu) (q_pk 0) (QE.p q_int)) T.b_range) (qg_nm 2 hN) (qss_cons (q_setF hN (q_lst qa_nil))
    (qss_cons (q_for hp hc (qj_enum (q_nm 1) T.b_enumerate) (qg_tup2 hc (qgs_cons (qg_nm 4 hN) (qgs_cons (qg_nm 5 hN) qgs_nil))) (qss_cons (q_set hN (QF.e (q_listRg1 hc (q_ix (ixs hu) (q_pk 0) (QE.p q_int)) T.b_list T.b_range)))
    (qss_one (q_ext 3 hN (QF.e (q_lc (own := [("place", 7)]) hc hN (qi_e (QE.p (q_if (q_tcmp (ops_eq hu) (QE.p (QF.e (q_bin ops_mod (q_pk 4) (QE.p q_int)))) (QE.p q_int)) (q_nm 6) (QF.e (q_rv (q_pk 6)))))) (blkOk_by (own := [("place", 7)]) (by rfl)) (fun _ _ _ _ _ => (qg_nm 7 hN)) (fun _ _ _ _ _ => qts_nil) (fun _ _ _ _ _ => (QF.e (q_bin ops_add (q_pk 5) (QE.p (q_tup (qa_cons (q_nm 7) qa_nil))))))))))))
    (qss_one (QS.weak (O2 := []) (q_set hN (q_nm 3)))))))
    (qss_one (q_ret (q_nm 1)))))
theorem v_one_step_row (T : Top K mg) : FnV P w K mg base 6 "one_step_row" ["frame"] false m_one_step_row := by
  have G_need_listed := v_need_listed (P := P) (w := w) (base := base) T
  have G_row_in := v_row_in (P := P) (w := w) (base := base) T
  exact fnv_of (O' := []) T.f_one_step_row sc_one_step_row fun cdv f A outer s H E hr hu hu2 hc hN zp hp => (qss_cons (q_drop (q_call G_need_listed (hr.mono (by decide)) zp (qa_cons (q_nm 0) (qa_cons (q_gintC T.c_LISTED) qa_nil))))
    (qss_one (q_ret (QF.e (q_callTy cas_tuple T.b_tuple rfl (qpa_cons (QE.p (q_call G_row_in (hr.mono (by decide)) zp (qa_cons (q_nm 0) qa_nil))) qpa_nil))))))
theorem v_law_all (T : Top K mg) : FnV P w K mg base 1 "_law_all" ["frame"] false m_law_all := by
  exact fnv_of (O' := []) T.f_law_all sc_law_all fun cdv f A outer s H E hr hu hu2 hc hN zp hp => (qss_cons (q_set hN (QF.e (q_lst (qa_cons (q_tup qa_nil) qa_nil))))
    (qss_cons (q_for hp hc (qj_rg1 (q_ix (ixs hu) (q_pk 0) (QE.p q_int)) T.b_range) (qg_nm 2 hN) (qss_cons (q_set hN (QF.e (q_lst qa_nil)))
    (qss_cons (q_for hp hc (qj_e (q_nm 1)) (qg_nm 4 hN) (qss_one (q_set hN (QF.e (q_bin ops_add (q_pk 3) (QE.p (QF.e (q_lc (own := [("place", 5)]) hc hN (QJ.i (qj_rg1 (q_ix (ixs hu) (q_pk 0) (QE.p q_int)) T.b_range)) (blkOk_by (own := [("place", 5)]) (by rfl)) (fun _ _ _ _ _ => (qg_nm 5 hN)) (fun _ _ _ _ _ => qts_nil) (fun _ _ _ _ _ => (QF.e (q_bin ops_add (q_pk 4) (QE.p (q_tup (qa_cons (q_nm 5) qa_nil))))))))))))))
    (qss_one (q_set hN (q_nm 3))))))
    (qss_one (q_ret (q_nm 1)))))
theorem v_law_is_row (T : Top K mg) : FnV P w K mg base 2 "_law_is_row" ["frame", "value"] false m_law_is_row := by
  have G_law_all := v_law_all (P := P) (w := w) (base := base) T
  have G_law_turns := v_law_turns (P := P) (w := w) (base := base) T
  exact fnv_of (O' := []) T.f_law_is_row sc_law_is_row fun cdv f A outer s H E hr hu hu2 hc hN zp hp => (qss_cons (q_ifS (q_tnot (q_tval (q_isi T.b_isinstance T.b_tuple rfl (q_pk 1)))) (qss_one (q_ret q_bl)) qss_nil)
    (qss_cons (q_for hp hc (qj_e (q_nm 1)) (qg_nm 2 hN) (qss_cons (q_ifS (QW.t (q_wor (q_tnot (q_tval (q_isi T.b_isinstance T.b_tuple rfl (q_pk 2)))) (q_wor1 (q_tcmp (ops_ne hu) (QE.p (QF.e (q_callB cas_len T.b_len rfl (qpa_cons (q_pk 2) qpa_nil)))) (QE.p (q_ix (ixs hu) (q_pk 0) (QE.p q_int))))))) (qss_one (q_ret q_bl)) qss_nil)
    (qss_one (q_ifS (q_tcmp (ops_ne hu) (QE.p (QF.e (q_lc (own := [("one", 3)]) hc hN (qi_e (q_pk 2)) (blkOk_by (own := [("one", 3)]) (by rfl)) (fun _ _ _ _ _ => (qg_nm 3 hN)) (fun _ _ _ _ _ => (qts_one (QW.t (q_wor (q_tnot (q_tval (q_isi T.b_isinstance T.b_int rfl (q_pk 3)))) (q_wor (q_tval (q_isi T.b_isinstance T.b_bool rfl (q_pk 3))) (q_wor1 (q_tnot (q_tchn (ops_le hu) (ops_lt hu) (QE.p q_int) (q_pk 3) (QE.p (q_ix (ixs hu) (q_pk 0) (QE.p q_int))))))))))) (fun _ _ _ _ _ => (q_nm 3))))) (QE.p (QF.e (q_lst qa_nil)))) (qss_one (q_ret q_bl)) qss_nil))))
    (qss_cons (q_ifS (q_tcmp (ops_ne hu) (QE.p (QF.e (q_callB (cas_sorted3 hu) T.b_sorted rfl (qpa_cons (q_pk 1) qpa_nil)))) (QE.p (q_call G_law_all (hr.mono (by decide)) zp (qa_cons (q_nm 0) qa_nil)))) (qss_one (q_ret q_bl)) qss_nil)
    (qss_one (q_ret (QF.e (q_cmp (ops_eq hu) (QE.p (QF.e (q_lc (own := [("one", 3), ("other", 4)]) hc hN (QJ.i (qj_zip (q_nm 1) (QF.e (q_sl (q_pk 1) (qo_s q_int) qo_n)) T.b_zip)) (blkOk_by (own := [("one", 3), ("other", 4)]) (by rfl)) (fun _ _ _ _ _ => (qg_tup2 hc (qgs_cons (qg_nm 3 hN) (qgs_cons (qg_nm 4 hN) qgs_nil)))) (fun _ _ _ _ _ => (qts_one (q_tcmp (ops_ne hu) (QE.p (q_call G_law_turns (hr.mono (by decide)) zp_blk (qa_cons (q_nm 0) (qa_cons (q_nm 3) (qa_cons (q_nm 4) qa_nil))))) (QE.p q_int)))) (fun _ _ _ _ _ => q_int)))) (QE.p (QF.e (q_lst qa_nil))))))))))
theorem v_law_near (T : Top K mg) : FnV P w K mg base 2 "_law_near" ["cup", "frame", "row"] true m_law_near := by
  have G_law_roll := v_law_roll (P := P) (w := w) (base := base) T
  have G_law_all := v_law_all (P := P) (w := w) (base := base) T
  exact fnv_of (O' := []) T.f_law_near sc_law_near fun cdv f A outer s H E hr hu hu2 hc hN zp hp => (qss_cons (q_asg (q_tup (qa_cons (q_callC G_law_roll (hr.mono (by decide)) zp (qa_cons (QF.e (q_callB cas_len T.b_len rfl (qpa_cons (q_pk 2) qpa_nil))) qa_nil)) (qa_cons (q_callC G_law_roll (hr.mono (by decide)) zp (qa_cons (QF.e (q_callB cas_len T.b_len rfl (qpa_cons (q_pk 2) qpa_nil))) qa_nil)) qa_nil))) (qg_tup2 hc (qgs_cons (qg_nm 3 hN) (qgs_cons (qg_nm 4 hN) qgs_nil))))
    (qss_cons (q_setF hN (q_lst (qa_cons (q_nm 2) (qa_cons (QF.e (q_rv (q_pk 2))) (qa_cons (QF.e (q_sl (q_pk 2) (qo_s q_int) qo_n)) (qa_cons (QF.e (q_bin ops_add (q_pk 2) (QE.p (QF.e (q_sl (q_pk 2) qo_n (qo_s q_int)))))) (qa_cons (QF.e (q_bin ops_add (QE.p (QF.e (q_sl (q_pk 2) (qo_s (q_nm 3)) qo_n))) (QE.p (QF.e (q_sl (q_pk 2) qo_n (qo_s (q_nm 3))))))) (qa_cons (QF.e (q_callTy (cas_listS hc) T.b_list rfl (qpa_cons (q_pk 2) qpa_nil))) (qa_cons q_non (qa_cons (q_tup qa_nil) (qa_cons q_str (qa_cons q_int (qa_cons (QF.e (q_callTy cas_tuple T.b_tuple rfl (qpa_cons (QE.p (q_call G_law_all (hr.mono (by decide)) zp (qa_cons (q_nm 1) qa_nil))) qpa_nil))) qa_nil)))))))))))))
    (qss_cons (q_app 5 (QF.e (q_callTy cas_tuple T.b_tuple rfl (qpa_cons (QE.p (QF.e (q_lc (own := [("sign", 7)]) hc hN (qi_e (q_pk 2)) (blkOk_by (own := [("sign", 7)]) (by rfl)) (fun _ _ _ _ _ => (qg_nm 7 hN)) (fun _ _ _ _ _ => qts_nil) (fun _ _ _ _ _ => (QF.e (q_callTy cas_tuple T.b_tuple rfl (qpa_cons (QE.p (QF.e (q_lc (own := [("place", 8)]) (by exact hc) (by exact hN) (qi_e (q_pk 7)) (blkOk_by (own := [("place", 8)]) (by rfl)) (fun _ _ _ _ _ => (qg_nm 8 hN)) (fun _ _ _ _ _ => qts_nil) (fun _ _ _ _ _ => (QF.e (q_bin ops_mod (QE.p (QF.e (q_bin ops_add (q_pk 8) (QE.p q_int)))) (QE.p (q_ix (ixs hu) (q_pk 1) (QE.p q_int))))))))) qpa_nil))))))) qpa_nil))))
    (qss_cons (q_app 5 (QF.e (q_callTy cas_tuple T.b_tuple rfl (qpa_cons (QE.p (QF.e (q_lc (own := [("sign", 7)]) hc hN (qi_e (q_pk 2)) (blkOk_by (own := [("sign", 7)]) (by rfl)) (fun _ _ _ _ _ => (qg_nm 7 hN)) (fun _ _ _ _ _ => qts_nil) (fun _ _ _ _ _ => (QF.e (q_rv (q_pk 7))))))) qpa_nil))))
    (qss_cons (q_set hN (QF.e (q_lst (qa_cons (q_ix (ixs hu) (q_pk 2) (q_pk 4)) (qa_cons (QF.e (q_callTy (cas_listS hc) T.b_list rfl (qpa_cons (QE.p (q_ix (ixs hu) (q_pk 2) (q_pk 3))) qpa_nil))) (qa_cons (QF.e (q_sl (QE.p (q_ix (ixs hu) (q_pk 2) (q_pk 3))) (qo_s q_int) qo_n)) (qa_cons (QF.e (q_bin ops_add (QE.p (q_ix (ixs hu) (q_pk 2) (q_pk 3))) (QE.p (q_tup (qa_cons q_int qa_nil))))) (qa_cons q_non (qa_cons (QF.e (q_bin ops_add (QE.p (q_tup (qa_cons q_bl qa_nil))) (QE.p (QF.e (q_sl (QE.p (q_ix (ixs hu) (q_pk 2) (q_pk 3))) (qo_s q_int) qo_n))))) (qa_cons (QF.e (q_bin ops_add (QE.p (q_tup (qa_cons (q_ix (ixs hu) (q_pk 1) (QE.p q_int)) qa_nil))) (QE.p (QF.e (q_sl (QE.p (q_ix (ixs hu) (q_pk 2) (q_pk 3))) (qo_s q_int) qo_n))))) (qa_cons (QF.e (q_bin ops_add (QE.p (q_tup (qa_cons (q_neg q_int) qa_nil))) (QE.p (QF.e (q_sl (QE.p (q_ix (ixs hu) (q_pk 2) (q_pk 3))) (qo_s q_int) qo_n))))) qa_nil)))))))))))
    (qss_one (q_ret (QF.e (q_bin ops_add (q_pk 5) (QE.p (QF.e (q_lc (own := [("odd", 9)]) hc hN (qi_e (QE.p (QF.e (q_bin ops_add (q_pk 6) (QE.p (QF.e (q_lst (qa_cons (QF.e (q_bin ops_add (QE.p (q_tup (qa_cons q_non qa_nil))) (QE.p (QF.e (q_sl (QE.p (q_ix (ixs hu) (q_pk 2) (q_pk 3))) (qo_s q_int) qo_n))))) (qa_cons (q_tup qa_nil) qa_nil))))))))) (blkOk_by (own := [("odd", 9)]) (by rfl)) (fun _ _ _ _ _ => (qg_nm 9 hN)) (fun _ _ _ _ _ => qts_nil) (fun _ _ _ _ _ => (QF.e (q_bin ops_add (QE.p (QF.e (q_bin ops_add (QE.p (QF.e (q_sl (q_pk 2) qo_n (qo_s (q_nm 3))))) (QE.p (q_tup (qa_cons (q_nm 9) qa_nil)))))) (QE.p (QF.e (q_sl (q_pk 2) (qo_s (QF.e (q_bin ops_add (q_pk 3) (QE.p q_int)))) qo_n))))))))))))))))))
theorem v_signs_of (T : Top K mg) : FnV P w K mg base 1 "signs_of" ["frame"] false m_signs_of := by
  exact fnv_of (O' := []) T.f_signs_of sc_signs_of fun cdv f A outer s H E hr hu hu2 hc hN zp hp => (qss_cons (q_set hN (QF.e (q_lst (qa_cons (q_tup qa_nil) qa_nil))))
    (qss_cons (q_for hp hc (qj_rg1 (q_ix (ixs hu) (q_pk 0) (QE.p q_int)) T.b_range) (qg_nm 2 hN) (qss_one (QS.out (O2 := []) (q_setLc2 (own := [("one", 3), ("place", 4)]) (vs1 := [4]) hc hN (qi_e (q_pk 1)) (blkOk_by (own := [("one", 3), ("place", 4)]) (by rfl)) (fun _ _ _ _ _ => (qg_nm 3 hN)) (fun _ _ _ _ _ => qts_nil) (fun _ _ _ _ _ => (qj_rg1 (q_ix (ixs hu) (q_pk 0) (QE.p q_int)) T.b_range)) (fun _ _ _ _ _ => (qg_nm 4 hN)) (fun _ _ _ _ _ => qts_nil) (fun _ _ _ _ _ => (QF.e (q_bin ops_add (q_pk 3) (QE.p (q_tup (qa_cons (q_nm 4) qa_nil))))))))))
    (qss_one (q_ret (q_nm 1)))))
theorem v_is_one_step_row (T : Top K mg) : FnV P w K mg base 6 "is_one_step_row" ["frame", "value"] false m_is_one_step_row := by
  have G_need_listed := v_need_listed (P := P) (w := w) (base := base) T
  have G_all_many := v_all_many (P := P) (w := w) (base := base) T
  have G_fits_sign := v_fits_sign (P := P) (w := w) (base := base) T
  have G_is_tuple_of := v_is_tuple_of (P := P) (w := w) (base := base) T
  have G_turns_in := v_turns_in (P := P) (w := w) (base := base) T
  have G_signs_of := v_signs_of (P := P) (w := w) (base := base) T
  exact fnv_of (O' := []) T.f_is_one_step_row sc_is_one_step_row fun cdv f A outer s H E hr hu hu2 hc hN zp hp => (qss_cons (q_drop (q_call G_need_listed (hr.mono (by decide)) zp (qa_cons (q_nm 0) (qa_cons (q_gintC T.c_LISTED) qa_nil))))
    (qss_cons (q_set hN (q_call G_all_many (hr.mono (by decide)) zp (qa_cons (q_nm 0) qa_nil)))
    (qss_cons (q_ifS (QW.t (q_wor (q_tnot (q_tval (q_call G_is_tuple_of (hr.mono (by decide)) zp (qa_cons (q_nm 1) (qa_cons (q_nm 2) (qa_cons (q_nm 2) qa_nil)))))) (q_wor1 (q_tnot (q_tval (QF.e (q_callB (cas_all hc) T.b_all rfl (qpa_cons (QE.p (QF.e (q_lc (own := [("one", 4)]) hc hN (qi_e (q_pk 1)) (blkOk_by (own := [("one", 4)]) (by rfl)) (fun _ _ _ _ _ => (qg_nm 4 hN)) (fun _ _ _ _ _ => qts_nil) (fun _ _ _ _ _ => (q_call G_fits_sign (hr.mono (by decide)) zp_blk (qa_cons (q_nm 0) (qa_cons (q_nm 4) qa_nil))))))) qpa_nil)))))))) (qss_one (q_ret q_bl)) qss_nil)
    (qss_cons (QS.out (O2 := []) (q_setLc (own := [("one", 4), ("two", 5)]) hc hN (QJ.i (qj_zip (q_nm 1) (QF.e (q_sl (q_pk 1) (qo_s q_int) qo_n)) T.b_zip)) (blkOk_by (own := [("one", 4), ("two", 5)]) (by rfl)) (fun _ _ _ _ _ => (qg_tup2 hc (qgs_cons (qg_nm 4 hN) (qgs_cons (qg_nm 5 hN) qgs_nil)))) (fun _ _ _ _ _ => qts_nil) (fun _ _ _ _ _ => (q_call G_turns_in (hr.mono (by decide)) zp_blk (qa_cons (q_nm 0) (qa_cons (q_nm 4) (qa_cons (q_nm 5) qa_nil)))))))
    (qss_one (q_ret (q_and (QF.e (q_cmp (ops_eq hu) (QE.p (QF.e (q_callB (cas_sorted3 hu) T.b_sorted rfl (qpa_cons (q_pk 1) qpa_nil)))) (QE.p (q_call G_signs_of (hr.mono (by decide)) zp (qa_cons (q_nm 0) qa_nil))))) (q_one (QF.e (q_callB (cas_all hc) T.b_all rfl (qpa_cons (QE.p (QF.e (q_lc (own := [("step", 6)]) hc hN (qi_e (q_pk 3)) (blkOk_by (own := [("step", 6)]) (by rfl)) (fun _ _ _ _ _ => (qg_nm 6 hN)) (fun _ _ _ _ _ => qts_nil) (fun _ _ _ _ _ => (QF.e (q_cmp (ops_eq hu) (q_pk 6) (QE.p q_int))))))) qpa_nil)))))))))))
theorem v_law_rows_right (T : Top K mg) : FnV P w K mg base 10 "_law_rows_right" ["cup"] true m_law_rows_right := by
  have G_law_frame := v_law_frame (P := P) (w := w) (base := base) T
  have G_law_some := v_law_some (P := P) (w := w) (base := base) T
  have G_one_step_row := v_one_step_row (P := P) (w := w) (base := base) T
  have G_law_is_row := v_law_is_row (P := P) (w := w) (base := base) T
  have G_law_near := v_law_near (P := P) (w := w) (base := base) T
  have G_law_same := v_law_same (P := P) (w := w) (base := base) T 8
  have G_is_one_step_row := v_is_one_step_row (P := P) (w := w) (base := base) T
  exact fnv_of (O' := []) T.f_law_rows_right sc_law_rows_right fun cdv f A outer s H E hr hu hu2 hc hN zp hp => (qss_cons (q_set hN (q_callC G_law_frame (hr.mono (by decide)) zp (qa_cons (q_callC G_law_some (hr.mono (by decide)) zp (qa_cons (QF.e (q_lst (qa_cons q_int (qa_cons q_int (qa_cons q_int qa_nil))))) qa_nil)) qa_nil)))
    (qss_cons (q_set hN (q_call G_one_step_row (hr.mono (by decide)) zp (qa_cons (q_nm 1) qa_nil)))
    (qss_cons (q_ifS (q_tnot (q_tval (q_call G_law_is_row (hr.mono (by decide)) zp (qa_cons (q_nm 1) (qa_cons (q_nm 2) qa_nil))))) (qss_one (q_ret q_bl)) qss_nil)
    (qss_one (q_ret (QF.e (q_cmp (ops_eq hu) (QE.p (QF.e (q_lc (own := [("value", 3)]) hc hN (qi_e (QE.p (q_callC G_law_near (hr.mono (by decide)) zp (qa_cons (q_nm 1) (qa_cons (q_nm 2) qa_nil))))) (blkOk_by (own := [("value", 3)]) (by rfl)) (fun _ _ _ _ _ => (qg_nm 3 hN)) (fun _ _ _ _ _ => (qts_one (q_tnot (q_tval (q_call G_law_same (hr.mono (by decide)) zp_blk (qa_cons (q_call G_is_one_step_row (hr.mono (by decide)) zp_blk (qa_cons (q_nm 1) (qa_cons (q_nm 3) qa_nil))) (qa_cons (q_call G_law_is_row (hr.mono (by decide)) zp_blk (qa_cons (q_nm 1) (qa_cons (q_nm 3) qa_nil))) qa_nil))))))) (fun _ _ _ _ _ => (q_nm 3))))) (QE.p (QF.e (q_lst qa_nil))))))))))
theorem v_law (T : Top K mg) (hlaw : ∀ ns : List Int, ns.length ≤ 63 → ∃ cp, m_law (List.replicate 6 none) (cup0 83 317 3917 2077502087 197 ns) = .ok (.rt (.bool true)) cp) : ∃ f fd, mg "law" = some (.ref f) ∧ Fun K "law" "law" s_law f fd ∧ FnOk P w K mg base (L2.CX P w) 11 f fd ["script"] (spLawV K) := by
  have G_law_turns_right := v_law_turns_right (P := P) (w := w) (base := base) T
  have G_law_rows_right := v_law_rows_right (P := P) (w := w) (base := base) T
  have G_law_roll := v_law_roll (P := P) (w := w) (base := base) T
  have G_turns_between := v_turns_between (P := P) (w := w) (base := base) T
  have G_law_same := v_law_same (P := P) (w := w) (base := base) T 8
  have G_next_signs := v_next_signs (P := P) (w := w) (base := base) T
  obtain ⟨f, fd, F, hm, hb⟩ := T.f_law
  obtain ⟨f2, fd2, F2, hm2, hb2⟩ := T.f_law_cup
  refine ⟨f, fd, hm, F, ?_⟩
  have GC := ok_cup (P := P) (w := w) (base := base) (k := 9) (c1 := 83) (m := 317) (a := 3917) (q := 2077502087) (r := 197) F2 sc_law_cup (by decide) (by decide) (by decide) rfl rfl rfl rfl rfl T.b_list T.b_abs T.b_int rfl
  refine ok_lawv (O' := []) F sc_law GC hm2 F2.kp hb2 rfl rfl (by first | exact .inl rfl | exact .inr (.inl rfl)) (by first | exact .inl rfl | exact .inr rfl) (fun cdv A outer s H E hr => ?_) hlaw
  have hu : (A.deeper (envOfC "law" (defScope s_law) s.heap.objs.size f cdv)).units + 65 < cLine := by have := hr.un; omega
  have hu2 : (A.deeper (envOfC "law" (defScope s_law) s.heap.objs.size f cdv)).units + 67 < cLine := by have := hr.un; omega
  have hc : (cxD P w K mg base ["script", "cup", "turn", "arms", "places", "told"] "law" s_law f cdv A outer s H E).calm = true := rfl
  have hN := sc_law.nd
  have zp := zp_def (P := P) (w := w) (K := K) (mg := mg) (base := base) (N := ["script", "cup", "turn", "arms", "places", "told"]) (x := "law") (st := s_law) (f := f) (cdv := cdv) (A := A) (outer := outer) (s := s) (H := H) (E := E) (ci := some 1)
  have hp := po_def (P := P) (w := w) (K := K) (mg := mg) (base := base) (N := ["script", "cup", "turn", "arms", "places", "told"]) (x := "law") (st := s_law) (f := f) (cdv := cdv) (A := A) (outer := outer) (s := s) (H := H) (E := E)
  exact (qss_cons (q_for hp hc (qj_rg1 q_int T.b_range) (qg_nm 2 hN) (qss_one (q_ifS (q_tnot (q_tval (q_callC G_law_turns_right (hr.mono (by decide)) zp qa_nil))) (qss_one (q_ret q_bl)) qss_nil)))
    (qss_cons (q_ifS (QW.t (q_wor (q_tnot (q_tval (q_callC G_law_rows_right (hr.mono (by decide)) zp qa_nil))) (q_wor1 (q_tnot (q_tval (q_callC G_law_rows_right (hr.mono (by decide)) zp qa_nil)))))) (qss_one (q_ret q_bl)) qss_nil)
    (qss_cons (q_par2 hc hN (qx_e (QF.e (q_bin ops_add (QE.p q_int) (QE.p (q_callC G_law_roll (hr.mono (by decide)) zp (qa_cons q_int qa_nil)))))) (qx_e (QF.e (q_bin ops_mul (QE.p q_int) (QE.p (QF.e (q_bin ops_add (QE.p q_int) (QE.p (q_callC G_law_roll (hr.mono (by decide)) zp (qa_cons q_int qa_nil))))))))))
    (qss_cons (q_set hN (q_call G_turns_between (hr.mono (by decide)) zp (qa_cons (q_tup (qa_cons (q_nm 3) (qa_cons (q_nm 4) qa_nil))) (qa_cons (QF.e (q_bin ops_mul2 (QE.p (q_tup (qa_cons q_int qa_nil))) (q_pk 3))) (qa_cons (QF.e (q_bin ops_mul2 (QE.p (q_tup (qa_cons (QF.e (q_bin ops_div (q_pk 4) (QE.p q_int))) qa_nil))) (q_pk 3))) qa_nil)))))
    (qss_one (q_ret (q_and (q_call G_law_same (hr.mono (by decide)) zp (qa_cons (q_nm 5) (qa_cons (QF.e (q_bin ops_mul (q_pk 3) (QE.p (QF.e (q_bin ops_div (q_pk 4) (QE.p q_int)))))) qa_nil))) (q_one (q_call G_law_same (hr.mono (by decide)) zp (qa_cons (QF.e (q_callB cas_len T.b_len rfl (qpa_cons (QE.p (q_call G_next_signs (hr.mono (by decide)) zp (qa_cons (q_tup (qa_cons q_int (qa_cons q_int qa_nil))) (qa_cons (q_tup (qa_cons q_int (qa_cons q_int (qa_cons q_int (qa_cons q_int qa_nil))))) qa_nil)))) qpa_nil))) (qa_cons q_int qa_nil)))))))))))
end
/-! ### what the top has written; the head -/
theorem top_mk {K : PySem.W.Frag} {h : Heap} {mg : Str → Option Value} (X : K.In h) (G : h.Ns mainGlobals mg)
    {f0 : Addr} {od0 an0 : Option Addr} {sl0 : Array (Option Value)} {oc0 kV0 dc0 pm0 cd0 ct0 : Value}
    {f1 : Addr} {od1 an1 : Option Addr} {sl1 : Array (Option Value)} {oc1 kV1 dc1 pm1 cd1 ct1 : Value}
    {f2 : Addr} {od2 an2 : Option Addr} {sl2 : Array (Option Value)} {oc2 kV2 dc2 pm2 cd2 ct2 : Value}
    {f3 : Addr} {od3 an3 : Option Addr} {sl3 : Array (Option Value)} {oc3 kV3 dc3 pm3 cd3 ct3 : Value}
    {f4 : Addr} {od4 an4 : Option Addr} {sl4 : Array (Option Value)} {oc4 kV4 dc4 pm4 cd4 ct4 : Value}
    {f5 : Addr} {od5 an5 : Option Addr} {sl5 : Array (Option Value)} {oc5 kV5 dc5 pm5 cd5 ct5 : Value}
    {f6 : Addr} {od6 an6 : Option Addr} {sl6 : Array (Option Value)} {oc6 kV6 dc6 pm6 cd6 ct6 : Value}
    {f7 : Addr} {od7 an7 : Option Addr} {sl7 : Array (Option Value)} {oc7 kV7 dc7 pm7 cd7 ct7 : Value}
    {f8 : Addr} {od8 an8 : Option Addr} {sl8 : Array (Option Value)} {oc8 kV8 dc8 pm8 cd8 ct8 : Value}
    {f9 : Addr} {od9 an9 : Option Addr} {sl9 : Array (Option Value)} {oc9 kV9 dc9 pm9 cd9 ct9 : Value}
    {f10 : Addr} {od10 an10 : Option Addr} {sl10 : Array (Option Value)} {oc10 kV10 dc10 pm10 cd10 ct10 : Value}
    {f11 : Addr} {od11 an11 : Option Addr} {sl11 : Array (Option Value)} {oc11 kV11 dc11 pm11 cd11 ct11 : Value}
    {f12 : Addr} {od12 an12 : Option Addr} {sl12 : Array (Option Value)} {oc12 kV12 dc12 pm12 cd12 ct12 : Value}
    {f13 : Addr} {od13 an13 : Option Addr} {sl13 : Array (Option Value)} {oc13 kV13 dc13 pm13 cd13 ct13 : Value}
    {f14 : Addr} {od14 an14 : Option Addr} {sl14 : Array (Option Value)} {oc14 kV14 dc14 pm14 cd14 ct14 : Value}
    {f15 : Addr} {od15 an15 : Option Addr} {sl15 : Array (Option Value)} {oc15 kV15 dc15 pm15 cd15 ct15 : Value}
    {f16 : Addr} {od16 an16 : Option Addr} {sl16 : Array (Option Value)} {oc16 kV16 dc16 pm16 cd16 ct16 : Value}
    {f17 : Addr} {od17 an17 : Option Addr} {sl17 : Array (Option Value)} {oc17 kV17 dc17 pm17 cd17 ct17 : Value}
    {f18 : Addr} {od18 an18 : Option Addr} {sl18 : Array (Option Value)} {oc18 kV18 dc18 pm18 cd18 ct18 : Value}
    {f19 : Addr} {od19 an19 : Option Addr} {sl19 : Array (Option Value)} {oc19 kV19 dc19 pm19 cd19 ct19 : Value}
    {f20 : Addr} {od20 an20 : Option Addr} {sl20 : Array (Option Value)} {oc20 kV20 dc20 pm20 cd20 ct20 : Value}
    {f21 : Addr} {od21 an21 : Option Addr} {sl21 : Array (Option Value)} {oc21 kV21 dc21 pm21 cd21 ct21 : Value}
    {f22 : Addr} {od22 an22 : Option Addr} {sl22 : Array (Option Value)} {oc22 kV22 dc22 pm22 cd22 ct22 : Value}
    {f23 : Addr} {od23 an23 : Option Addr} {sl23 : Array (Option Value)} {oc23 kV23 dc23 pm23 cd23 ct23 : Value}
    {f24 : Addr} {od24 an24 : Option Addr} {sl24 : Array (Option Value)} {oc24 kV24 dc24 pm24 cd24 ct24 : Value}
    {f25 : Addr} {od25 an25 : Option Addr} {sl25 : Array (Option Value)} {oc25 kV25 dc25 pm25 cd25 ct25 : Value}
    {f26 : Addr} {od26 an26 : Option Addr} {sl26 : Array (Option Value)} {oc26 kV26 dc26 pm26 cd26 ct26 : Value}
    {f27 : Addr} {od27 an27 : Option Addr} {sl27 : Array (Option Value)} {oc27 kV27 dc27 pm27 cd27 ct27 : Value}
    {f28 : Addr} {od28 an28 : Option Addr} {sl28 : Array (Option Value)} {oc28 kV28 dc28 pm28 cd28 ct28 : Value}
    {f29 : Addr} {od29 an29 : Option Addr} {sl29 : Array (Option Value)} {oc29 kV29 dc29 pm29 cd29 ct29 : Value}
    {f30 : Addr} {od30 an30 : Option Addr} {sl30 : Array (Option Value)} {oc30 kV30 dc30 pm30 cd30 ct30 : Value}
    {f31 : Addr} {od31 an31 : Option Addr} {sl31 : Array (Option Value)} {oc31 kV31 dc31 pm31 cd31 ct31 : Value}
    {f32 : Addr} {od32 an32 : Option Addr} {sl32 : Array (Option Value)} {oc32 kV32 dc32 pm32 cd32 ct32 : Value}
    {t_ARMS : Tok}
    {t_LISTED : Tok}
    {t_PLACES : Tok}
    (a0 : PySem.W.nsIn K mainGlobals "_law_cup" = some (some (.ref f0))) (l0 : K.lookup f0 = some ⟨oc0, od0, .func (PySem.W.fnOf "_law_cup" "_law_cup" (defArgs s_law_cup) (defBody s_law_cup) (defScope s_law_cup) .none kV0 dc0 pm0 an0 cd0 ct0), sl0⟩) (c0 : PySem.W.codeIn K cd0 "_law_cup" = true) (k0 : PySem.W.keepIn K (.ref f0) = true)
    (a1 : PySem.W.nsIn K mainGlobals "is_tuple_of" = some (some (.ref f1))) (l1 : K.lookup f1 = some ⟨oc1, od1, .func (PySem.W.fnOf "is_tuple_of" "is_tuple_of" (defArgs s_is_tuple_of) (defBody s_is_tuple_of) (defScope s_is_tuple_of) .none kV1 dc1 pm1 an1 cd1 ct1), sl1⟩) (c1 : PySem.W.codeIn K cd1 "is_tuple_of" = true) (k1 : PySem.W.keepIn K (.ref f1) = true)
    (a2 : PySem.W.nsIn K mainGlobals "is_whole" = some (some (.ref f2))) (l2 : K.lookup f2 = some ⟨oc2, od2, .func (PySem.W.fnOf "is_whole" "is_whole" (defArgs s_is_whole) (defBody s_is_whole) (defScope s_is_whole) .none kV2 dc2 pm2 an2 cd2 ct2), sl2⟩) (c2 : PySem.W.codeIn K cd2 "is_whole" = true) (k2 : PySem.W.keepIn K (.ref f2) = true)
    (a3 : PySem.W.nsIn K mainGlobals "fits_whole" = some (some (.ref f3))) (l3 : K.lookup f3 = some ⟨oc3, od3, .func (PySem.W.fnOf "fits_whole" "fits_whole" (defArgs s_fits_whole) (defBody s_fits_whole) (defScope s_fits_whole) .none kV3 dc3 pm3 an3 cd3 ct3), sl3⟩) (c3 : PySem.W.codeIn K cd3 "fits_whole" = true) (k3 : PySem.W.keepIn K (.ref f3) = true)
    (a4 : PySem.W.nsIn K mainGlobals "fits_frame" = some (some (.ref f4))) (l4 : K.lookup f4 = some ⟨oc4, od4, .func (PySem.W.fnOf "fits_frame" "fits_frame" (defArgs s_fits_frame) (defBody s_fits_frame) (defScope s_fits_frame) .none kV4 dc4 pm4 an4 cd4 ct4), sl4⟩) (c4 : PySem.W.codeIn K cd4 "fits_frame" = true) (k4 : PySem.W.keepIn K (.ref f4) = true)
    (a5 : PySem.W.nsIn K mainGlobals "need_frame" = some (some (.ref f5))) (l5 : K.lookup f5 = some ⟨oc5, od5, .func (PySem.W.fnOf "need_frame" "need_frame" (defArgs s_need_frame) (defBody s_need_frame) (defScope s_need_frame) .none kV5 dc5 pm5 an5 cd5 ct5), sl5⟩) (c5 : PySem.W.codeIn K cd5 "need_frame" = true) (k5 : PySem.W.keepIn K (.ref f5) = true)
    (a6 : PySem.W.nsIn K mainGlobals "fits_sign" = some (some (.ref f6))) (l6 : K.lookup f6 = some ⟨oc6, od6, .func (PySem.W.fnOf "fits_sign" "fits_sign" (defArgs s_fits_sign) (defBody s_fits_sign) (defScope s_fits_sign) .none kV6 dc6 pm6 an6 cd6 ct6), sl6⟩) (c6 : PySem.W.codeIn K cd6 "fits_sign" = true) (k6 : PySem.W.keepIn K (.ref f6) = true)
    (a7 : PySem.W.nsIn K mainGlobals "need_sign" = some (some (.ref f7))) (l7 : K.lookup f7 = some ⟨oc7, od7, .func (PySem.W.fnOf "need_sign" "need_sign" (defArgs s_need_sign) (defBody s_need_sign) (defScope s_need_sign) .none kV7 dc7 pm7 an7 cd7 ct7), sl7⟩) (c7 : PySem.W.codeIn K cd7 "need_sign" = true) (k7 : PySem.W.keepIn K (.ref f7) = true)
    (a8 : PySem.W.nsIn K mainGlobals "step_between" = some (some (.ref f8))) (l8 : K.lookup f8 = some ⟨oc8, od8, .func (PySem.W.fnOf "step_between" "step_between" (defArgs s_step_between) (defBody s_step_between) (defScope s_step_between) .none kV8 dc8 pm8 an8 cd8 ct8), sl8⟩) (c8 : PySem.W.codeIn K cd8 "step_between" = true) (k8 : PySem.W.keepIn K (.ref f8) = true)
    (a9 : PySem.W.nsIn K mainGlobals "turns_in" = some (some (.ref f9))) (l9 : K.lookup f9 = some ⟨oc9, od9, .func (PySem.W.fnOf "turns_in" "turns_in" (defArgs s_turns_in) (defBody s_turns_in) (defScope s_turns_in) .none kV9 dc9 pm9 an9 cd9 ct9), sl9⟩) (c9 : PySem.W.codeIn K cd9 "turns_in" = true) (k9 : PySem.W.keepIn K (.ref f9) = true)
    (a10 : PySem.W.nsIn K mainGlobals "turns_between" = some (some (.ref f10))) (l10 : K.lookup f10 = some ⟨oc10, od10, .func (PySem.W.fnOf "turns_between" "turns_between" (defArgs s_turns_between) (defBody s_turns_between) (defScope s_turns_between) .none kV10 dc10 pm10 an10 cd10 ct10), sl10⟩) (c10 : PySem.W.codeIn K cd10 "turns_between" = true) (k10 : PySem.W.keepIn K (.ref f10) = true)
    (a11 : PySem.W.nsIn K mainGlobals "_law_same" = some (some (.ref f11))) (l11 : K.lookup f11 = some ⟨oc11, od11, .func (PySem.W.fnOf "_law_same" "_law_same" (defArgs s_law_same) (defBody s_law_same) (defScope s_law_same) .none kV11 dc11 pm11 an11 cd11 ct11), sl11⟩) (c11 : PySem.W.codeIn K cd11 "_law_same" = true) (k11 : PySem.W.keepIn K (.ref f11) = true)
    (a12 : PySem.W.nsIn K mainGlobals "_law_roll" = some (some (.ref f12))) (l12 : K.lookup f12 = some ⟨oc12, od12, .func (PySem.W.fnOf "_law_roll" "_law_roll" (defArgs s_law_roll) (defBody s_law_roll) (defScope s_law_roll) .none kV12 dc12 pm12 an12 cd12 ct12), sl12⟩) (c12 : PySem.W.codeIn K cd12 "_law_roll" = true) (k12 : PySem.W.keepIn K (.ref f12) = true)
    (a13 : PySem.W.nsIn K mainGlobals "_law_some" = some (some (.ref f13))) (l13 : K.lookup f13 = some ⟨oc13, od13, .func (PySem.W.fnOf "_law_some" "_law_some" (defArgs s_law_some) (defBody s_law_some) (defScope s_law_some) .none kV13 dc13 pm13 an13 cd13 ct13), sl13⟩) (c13 : PySem.W.codeIn K cd13 "_law_some" = true) (k13 : PySem.W.keepIn K (.ref f13) = true)
    (a14 : PySem.W.nsIn K mainGlobals "_law_frame" = some (some (.ref f14))) (l14 : K.lookup f14 = some ⟨oc14, od14, .func (PySem.W.fnOf "_law_frame" "_law_frame" (defArgs s_law_frame) (defBody s_law_frame) (defScope s_law_frame) .none kV14 dc14 pm14 an14 cd14 ct14), sl14⟩) (c14 : PySem.W.codeIn K cd14 "_law_frame" = true) (k14 : PySem.W.keepIn K (.ref f14) = true)
    (a15 : PySem.W.nsIn K mainGlobals "_law_turns" = some (some (.ref f15))) (l15 : K.lookup f15 = some ⟨oc15, od15, .func (PySem.W.fnOf "_law_turns" "_law_turns" (defArgs s_law_turns) (defBody s_law_turns) (defScope s_law_turns) .none kV15 dc15 pm15 an15 cd15 ct15), sl15⟩) (c15 : PySem.W.codeIn K cd15 "_law_turns" = true) (k15 : PySem.W.keepIn K (.ref f15) = true)
    (a16 : PySem.W.nsIn K mainGlobals "_law_sign" = some (some (.ref f16))) (l16 : K.lookup f16 = some ⟨oc16, od16, .func (PySem.W.fnOf "_law_sign" "_law_sign" (defArgs s_law_sign) (defBody s_law_sign) (defScope s_law_sign) .none kV16 dc16 pm16 an16 cd16 ct16), sl16⟩) (c16 : PySem.W.codeIn K cd16 "_law_sign" = true) (k16 : PySem.W.keepIn K (.ref f16) = true)
    (a17 : PySem.W.nsIn K mainGlobals "behind" = some (some (.ref f17))) (l17 : K.lookup f17 = some ⟨oc17, od17, .func (PySem.W.fnOf "behind" "behind" (defArgs s_behind) (defBody s_behind) (defScope s_behind) .none kV17 dc17 pm17 an17 cd17 ct17), sl17⟩) (c17 : PySem.W.codeIn K cd17 "behind" = true) (k17 : PySem.W.keepIn K (.ref f17) = true)
    (a18 : PySem.W.nsIn K mainGlobals "from_behind" = some (some (.ref f18))) (l18 : K.lookup f18 = some ⟨oc18, od18, .func (PySem.W.fnOf "from_behind" "from_behind" (defArgs s_from_behind) (defBody s_from_behind) (defScope s_from_behind) .none kV18 dc18 pm18 an18 cd18 ct18), sl18⟩) (c18 : PySem.W.codeIn K cd18 "from_behind" = true) (k18 : PySem.W.keepIn K (.ref f18) = true)
    (a19 : PySem.W.nsIn K mainGlobals "next_signs" = some (some (.ref f19))) (l19 : K.lookup f19 = some ⟨oc19, od19, .func (PySem.W.fnOf "next_signs" "next_signs" (defArgs s_next_signs) (defBody s_next_signs) (defScope s_next_signs) .none kV19 dc19 pm19 an19 cd19 ct19), sl19⟩) (c19 : PySem.W.codeIn K cd19 "next_signs" = true) (k19 : PySem.W.keepIn K (.ref f19) = true)
    (a20 : PySem.W.nsIn K mainGlobals "_law_turns_right" = some (some (.ref f20))) (l20 : K.lookup f20 = some ⟨oc20, od20, .func (PySem.W.fnOf "_law_turns_right" "_law_turns_right" (defArgs s_law_turns_right) (defBody s_law_turns_right) (defScope s_law_turns_right) .none kV20 dc20 pm20 an20 cd20 ct20), sl20⟩) (c20 : PySem.W.codeIn K cd20 "_law_turns_right" = true) (k20 : PySem.W.keepIn K (.ref f20) = true)
    (a21 : PySem.W.nsIn K mainGlobals "power" = some (some (.ref f21))) (l21 : K.lookup f21 = some ⟨oc21, od21, .func (PySem.W.fnOf "power" "power" (defArgs s_power) (defBody s_power) (defScope s_power) .none kV21 dc21 pm21 an21 cd21 ct21), sl21⟩) (c21 : PySem.W.codeIn K cd21 "power" = true) (k21 : PySem.W.keepIn K (.ref f21) = true)
    (a22 : PySem.W.nsIn K mainGlobals "all_many" = some (some (.ref f22))) (l22 : K.lookup f22 = some ⟨oc22, od22, .func (PySem.W.fnOf "all_many" "all_many" (defArgs s_all_many) (defBody s_all_many) (defScope s_all_many) .none kV22 dc22 pm22 an22 cd22 ct22), sl22⟩) (c22 : PySem.W.codeIn K cd22 "all_many" = true) (k22 : PySem.W.keepIn K (.ref f22) = true)
    (a23 : PySem.W.nsIn K mainGlobals "need_listed" = some (some (.ref f23))) (l23 : K.lookup f23 = some ⟨oc23, od23, .func (PySem.W.fnOf "need_listed" "need_listed" (defArgs s_need_listed) (defBody s_need_listed) (defScope s_need_listed) .none kV23 dc23 pm23 an23 cd23 ct23), sl23⟩) (c23 : PySem.W.codeIn K cd23 "need_listed" = true) (k23 : PySem.W.keepIn K (.ref f23) = true)
    (a24 : PySem.W.nsIn K mainGlobals "row_in" = some (some (.ref f24))) (l24 : K.lookup f24 = some ⟨oc24, od24, .func (PySem.W.fnOf "row_in" "row_in" (defArgs s_row_in) (defBody s_row_in) (defScope s_row_in) .none kV24 dc24 pm24 an24 cd24 ct24), sl24⟩) (c24 : PySem.W.codeIn K cd24 "row_in" = true) (k24 : PySem.W.keepIn K (.ref f24) = true)
    (a25 : PySem.W.nsIn K mainGlobals "one_step_row" = some (some (.ref f25))) (l25 : K.lookup f25 = some ⟨oc25, od25, .func (PySem.W.fnOf "one_step_row" "one_step_row" (defArgs s_one_step_row) (defBody s_one_step_row) (defScope s_one_step_row) .none kV25 dc25 pm25 an25 cd25 ct25), sl25⟩) (c25 : PySem.W.codeIn K cd25 "one_step_row" = true) (k25 : PySem.W.keepIn K (.ref f25) = true)
    (a26 : PySem.W.nsIn K mainGlobals "_law_all" = some (some (.ref f26))) (l26 : K.lookup f26 = some ⟨oc26, od26, .func (PySem.W.fnOf "_law_all" "_law_all" (defArgs s_law_all) (defBody s_law_all) (defScope s_law_all) .none kV26 dc26 pm26 an26 cd26 ct26), sl26⟩) (c26 : PySem.W.codeIn K cd26 "_law_all" = true) (k26 : PySem.W.keepIn K (.ref f26) = true)
    (a27 : PySem.W.nsIn K mainGlobals "_law_is_row" = some (some (.ref f27))) (l27 : K.lookup f27 = some ⟨oc27, od27, .func (PySem.W.fnOf "_law_is_row" "_law_is_row" (defArgs s_law_is_row) (defBody s_law_is_row) (defScope s_law_is_row) .none kV27 dc27 pm27 an27 cd27 ct27), sl27⟩) (c27 : PySem.W.codeIn K cd27 "_law_is_row" = true) (k27 : PySem.W.keepIn K (.ref f27) = true)
    (a28 : PySem.W.nsIn K mainGlobals "_law_near" = some (some (.ref f28))) (l28 : K.lookup f28 = some ⟨oc28, od28, .func (PySem.W.fnOf "_law_near" "_law_near" (defArgs s_law_near) (defBody s_law_near) (defScope s_law_near) .none kV28 dc28 pm28 an28 cd28 ct28), sl28⟩) (c28 : PySem.W.codeIn K cd28 "_law_near" = true) (k28 : PySem.W.keepIn K (.ref f28) = true)
    (a29 : PySem.W.nsIn K mainGlobals "signs_of" = some (some (.ref f29))) (l29 : K.lookup f29 = some ⟨oc29, od29, .func (PySem.W.fnOf "signs_of" "signs_of" (defArgs s_signs_of) (defBody s_signs_of) (defScope s_signs_of) .none kV29 dc29 pm29 an29 cd29 ct29), sl29⟩) (c29 : PySem.W.codeIn K cd29 "signs_of" = true) (k29 : PySem.W.keepIn K (.ref f29) = true)
    (a30 : PySem.W.nsIn K mainGlobals "is_one_step_row" = some (some (.ref f30))) (l30 : K.lookup f30 = some ⟨oc30, od30, .func (PySem.W.fnOf "is_one_step_row" "is_one_step_row" (defArgs s_is_one_step_row) (defBody s_is_one_step_row) (defScope s_is_one_step_row) .none kV30 dc30 pm30 an30 cd30 ct30), sl30⟩) (c30 : PySem.W.codeIn K cd30 "is_one_step_row" = true) (k30 : PySem.W.keepIn K (.ref f30) = true)
    (a31 : PySem.W.nsIn K mainGlobals "_law_rows_right" = some (some (.ref f31))) (l31 : K.lookup f31 = some ⟨oc31, od31, .func (PySem.W.fnOf "_law_rows_right" "_law_rows_right" (defArgs s_law_rows_right) (defBody s_law_rows_right) (defScope s_law_rows_right) .none kV31 dc31 pm31 an31 cd31 ct31), sl31⟩) (c31 : PySem.W.codeIn K cd31 "_law_rows_right" = true) (k31 : PySem.W.keepIn K (.ref f31) = true)
    (a32 : PySem.W.nsIn K mainGlobals "law" = some (some (.ref f32))) (l32 : K.lookup f32 = some ⟨oc32, od32, .func (PySem.W.fnOf "law" "law" (defArgs s_law) (defBody s_law) (defScope s_law) .none kV32 dc32 pm32 an32 cd32 ct32), sl32⟩) (c32 : PySem.W.codeIn K cd32 "law" = true) (k32 : PySem.W.keepIn K (.ref f32) = true)
    (z_abs : PySem.W.nsIn K mainGlobals "abs" = some none)
    (z_all : PySem.W.nsIn K mainGlobals "all" = some none)
    (z_bool : PySem.W.nsIn K mainGlobals "bool" = some none)
    (z_enumerate : PySem.W.nsIn K mainGlobals "enumerate" = some none)
    (z_int : PySem.W.nsIn K mainGlobals "int" = some none)
    (z_isinstance : PySem.W.nsIn K mainGlobals "isinstance" = some none)
    (z_len : PySem.W.nsIn K mainGlobals "len" = some none)
    (z_list : PySem.W.nsIn K mainGlobals "list" = some none)
    (z_min : PySem.W.nsIn K mainGlobals "min" = some none)
    (z_range : PySem.W.nsIn K mainGlobals "range" = some none)
    (z_set : PySem.W.nsIn K mainGlobals "set" = some none)
    (z_sorted : PySem.W.nsIn K mainGlobals "sorted" = some none)
    (z_str : PySem.W.nsIn K mainGlobals "str" = some none)
    (z_sum : PySem.W.nsIn K mainGlobals "sum" = some none)
    (z_tuple : PySem.W.nsIn K mainGlobals "tuple" = some none)
    (z_zip : PySem.W.nsIn K mainGlobals "zip" = some none)
    (z_ARMS : PySem.W.nsIn K mainGlobals "ARMS" = some (some (.int 4 t_ARMS)))
    (z_LISTED : PySem.W.nsIn K mainGlobals "LISTED" = some (some (.int 512 t_LISTED)))
    (z_PLACES : PySem.W.nsIn K mainGlobals "PLACES" = some (some (.int 8 t_PLACES)))
    : Top K mg where
  f_law_cup := ⟨f0, _, fun_mk l0 c0 k0, PySem.W.mg_of X G a0, (fun_mk (st := s_law_cup) l0 c0 k0).binds (ps := ["script"]) fun _ _ _ _ _ _ us hl => match us, hl with | [_], _ => rfl⟩
  f_is_tuple_of := ⟨f1, _, fun_mk l1 c1 k1, PySem.W.mg_of X G a1, (fun_mk (st := s_is_tuple_of) l1 c1 k1).binds (ps := ["value", "least", "most"]) fun _ _ _ _ _ _ us hl => match us, hl with | [_, _, _], _ => rfl⟩
  f_is_whole := ⟨f2, _, fun_mk l2 c2 k2, PySem.W.mg_of X G a2, (fun_mk (st := s_is_whole) l2 c2 k2).binds (ps := ["value"]) fun _ _ _ _ _ _ us hl => match us, hl with | [_], _ => rfl⟩
  f_fits_whole := ⟨f3, _, fun_mk l3 c3 k3, PySem.W.mg_of X G a3, (fun_mk (st := s_fits_whole) l3 c3 k3).binds (ps := ["value", "low", "high"]) fun _ _ _ _ _ _ us hl => match us, hl with | [_, _, _], _ => rfl⟩
  f_fits_frame := ⟨f4, _, fun_mk l4 c4 k4, PySem.W.mg_of X G a4, (fun_mk (st := s_fits_frame) l4 c4 k4).binds (ps := ["value"]) fun _ _ _ _ _ _ us hl => match us, hl with | [_], _ => rfl⟩
  f_need_frame := ⟨f5, _, fun_mk l5 c5 k5, PySem.W.mg_of X G a5, (fun_mk (st := s_need_frame) l5 c5 k5).binds (ps := ["value"]) fun _ _ _ _ _ _ us hl => match us, hl with | [_], _ => rfl⟩
  f_fits_sign := ⟨f6, _, fun_mk l6 c6 k6, PySem.W.mg_of X G a6, (fun_mk (st := s_fits_sign) l6 c6 k6).binds (ps := ["frame", "value"]) fun _ _ _ _ _ _ us hl => match us, hl with | [_, _], _ => rfl⟩
  f_need_sign := ⟨f7, _, fun_mk l7 c7 k7, PySem.W.mg_of X G a7, (fun_mk (st := s_need_sign) l7 c7 k7).binds (ps := ["frame", "value"]) fun _ _ _ _ _ _ us hl => match us, hl with | [_, _], _ => rfl⟩
  f_step_between := ⟨f8, _, fun_mk l8 c8 k8, PySem.W.mg_of X G a8, (fun_mk (st := s_step_between) l8 c8 k8).binds (ps := ["frame", "one", "other"]) fun _ _ _ _ _ _ us hl => match us, hl with | [_, _, _], _ => rfl⟩
  f_turns_in := ⟨f9, _, fun_mk l9 c9 k9, PySem.W.mg_of X G a9, (fun_mk (st := s_turns_in) l9 c9 k9).binds (ps := ["frame", "one", "other"]) fun _ _ _ _ _ _ us hl => match us, hl with | [_, _, _], _ => rfl⟩
  f_turns_between := ⟨f10, _, fun_mk l10 c10 k10, PySem.W.mg_of X G a10, (fun_mk (st := s_turns_between) l10 c10 k10).binds (ps := ["frame", "one", "other"]) fun _ _ _ _ _ _ us hl => match us, hl with | [_, _, _], _ => rfl⟩
  f_law_same := ⟨f11, _, fun_mk l11 c11 k11, PySem.W.mg_of X G a11, (fun_mk (st := s_law_same) l11 c11 k11).binds (ps := ["told", "due"]) fun _ _ _ _ _ _ us hl => match us, hl with | [_, _], _ => rfl⟩
  f_law_roll := ⟨f12, _, fun_mk l12 c12 k12, PySem.W.mg_of X G a12, (fun_mk (st := s_law_roll) l12 c12 k12).binds (ps := ["cup", "many"]) fun _ _ _ _ _ _ us hl => match us, hl with | [_, _], _ => rfl⟩
  f_law_some := ⟨f13, _, fun_mk l13 c13 k13, PySem.W.mg_of X G a13, (fun_mk (st := s_law_some) l13 c13 k13).binds (ps := ["cup", "things"]) fun _ _ _ _ _ _ us hl => match us, hl with | [_, _], _ => rfl⟩
  f_law_frame := ⟨f14, _, fun_mk l14 c14 k14, PySem.W.mg_of X G a14, (fun_mk (st := s_law_frame) l14 c14 k14).binds (ps := ["cup", "most"]) fun _ _ _ _ _ _ us hl => match us, hl with | [_, _], _ => rfl⟩
  f_law_turns := ⟨f15, _, fun_mk l15 c15 k15, PySem.W.mg_of X G a15, (fun_mk (st := s_law_turns) l15 c15 k15).binds (ps := ["frame", "one", "other"]) fun _ _ _ _ _ _ us hl => match us, hl with | [_, _, _], _ => rfl⟩
  f_law_sign := ⟨f16, _, fun_mk l16 c16 k16, PySem.W.mg_of X G a16, (fun_mk (st := s_law_sign) l16 c16 k16).binds (ps := ["cup", "frame"]) fun _ _ _ _ _ _ us hl => match us, hl with | [_, _], _ => rfl⟩
  f_behind := ⟨f17, _, fun_mk l17 c17 k17, PySem.W.mg_of X G a17, (fun_mk (st := s_behind) l17 c17 k17).binds (ps := ["frame", "sign"]) fun _ _ _ _ _ _ us hl => match us, hl with | [_, _], _ => rfl⟩
  f_from_behind := ⟨f18, _, fun_mk l18 c18 k18, PySem.W.mg_of X G a18, (fun_mk (st := s_from_behind) l18 c18 k18).binds (ps := ["frame", "sign"]) fun _ _ _ _ _ _ us hl => match us, hl with | [_, _], _ => rfl⟩
  f_next_signs := ⟨f19, _, fun_mk l19 c19 k19, PySem.W.mg_of X G a19, (fun_mk (st := s_next_signs) l19 c19 k19).binds (ps := ["frame", "sign"]) fun _ _ _ _ _ _ us hl => match us, hl with | [_, _], _ => rfl⟩
  f_law_turns_right := ⟨f20, _, fun_mk l20 c20 k20, PySem.W.mg_of X G a20, (fun_mk (st := s_law_turns_right) l20 c20 k20).binds (ps := ["cup"]) fun _ _ _ _ _ _ us hl => match us, hl with | [_], _ => rfl⟩
  f_power := ⟨f21, _, fun_mk l21 c21 k21, PySem.W.mg_of X G a21, (fun_mk (st := s_power) l21 c21 k21).binds (ps := ["base", "many"]) fun _ _ _ _ _ _ us hl => match us, hl with | [_, _], _ => rfl⟩
  f_all_many := ⟨f22, _, fun_mk l22 c22 k22, PySem.W.mg_of X G a22, (fun_mk (st := s_all_many) l22 c22 k22).binds (ps := ["frame"]) fun _ _ _ _ _ _ us hl => match us, hl with | [_], _ => rfl⟩
  f_need_listed := ⟨f23, _, fun_mk l23 c23 k23, PySem.W.mg_of X G a23, (fun_mk (st := s_need_listed) l23 c23 k23).binds (ps := ["frame", "limit"]) fun _ _ _ _ _ _ us hl => match us, hl with | [_, _], _ => rfl⟩
  f_row_in := ⟨f24, _, fun_mk l24 c24 k24, PySem.W.mg_of X G a24, (fun_mk (st := s_row_in) l24 c24 k24).binds (ps := ["frame"]) fun _ _ _ _ _ _ us hl => match us, hl with | [_], _ => rfl⟩
  f_one_step_row := ⟨f25, _, fun_mk l25 c25 k25, PySem.W.mg_of X G a25, (fun_mk (st := s_one_step_row) l25 c25 k25).binds (ps := ["frame"]) fun _ _ _ _ _ _ us hl => match us, hl with | [_], _ => rfl⟩
  f_law_all := ⟨f26, _, fun_mk l26 c26 k26, PySem.W.mg_of X G a26, (fun_mk (st := s_law_all) l26 c26 k26).binds (ps := ["frame"]) fun _ _ _ _ _ _ us hl => match us, hl with | [_], _ => rfl⟩
  f_law_is_row := ⟨f27, _, fun_mk l27 c27 k27, PySem.W.mg_of X G a27, (fun_mk (st := s_law_is_row) l27 c27 k27).binds (ps := ["frame", "value"]) fun _ _ _ _ _ _ us hl => match us, hl with | [_, _], _ => rfl⟩
  f_law_near := ⟨f28, _, fun_mk l28 c28 k28, PySem.W.mg_of X G a28, (fun_mk (st := s_law_near) l28 c28 k28).binds (ps := ["cup", "frame", "row"]) fun _ _ _ _ _ _ us hl => match us, hl with | [_, _, _], _ => rfl⟩
  f_signs_of := ⟨f29, _, fun_mk l29 c29 k29, PySem.W.mg_of X G a29, (fun_mk (st := s_signs_of) l29 c29 k29).binds (ps := ["frame"]) fun _ _ _ _ _ _ us hl => match us, hl with | [_], _ => rfl⟩
  f_is_one_step_row := ⟨f30, _, fun_mk l30 c30 k30, PySem.W.mg_of X G a30, (fun_mk (st := s_is_one_step_row) l30 c30 k30).binds (ps := ["frame", "value"]) fun _ _ _ _ _ _ us hl => match us, hl with | [_, _], _ => rfl⟩
  f_law_rows_right := ⟨f31, _, fun_mk l31 c31 k31, PySem.W.mg_of X G a31, (fun_mk (st := s_law_rows_right) l31 c31 k31).binds (ps := ["cup"]) fun _ _ _ _ _ _ us hl => match us, hl with | [_], _ => rfl⟩
  f_law := ⟨f32, _, fun_mk l32 c32 k32, PySem.W.mg_of X G a32, (fun_mk (st := s_law) l32 c32 k32).binds (ps := ["script"]) fun _ _ _ _ _ _ us hl => match us, hl with | [_], _ => rfl⟩
  b_abs := PySem.W.mg_none_of X G z_abs
  b_all := PySem.W.mg_none_of X G z_all
  b_bool := PySem.W.mg_none_of X G z_bool
  b_enumerate := PySem.W.mg_none_of X G z_enumerate
  b_int := PySem.W.mg_none_of X G z_int
  b_isinstance := PySem.W.mg_none_of X G z_isinstance
  b_len := PySem.W.mg_none_of X G z_len
  b_list := PySem.W.mg_none_of X G z_list
  b_min := PySem.W.mg_none_of X G z_min
  b_range := PySem.W.mg_none_of X G z_range
  b_set := PySem.W.mg_none_of X G z_set
  b_sorted := PySem.W.mg_none_of X G z_sorted
  b_str := PySem.W.mg_none_of X G z_str
  b_sum := PySem.W.mg_none_of X G z_sum
  b_tuple := PySem.W.mg_none_of X G z_tuple
  b_zip := PySem.W.mg_none_of X G z_zip
  c_ARMS := ⟨_, PySem.W.mg_of X G z_ARMS, _, rfl⟩
  c_LISTED := ⟨_, PySem.W.mg_of X G z_LISTED, _, rfl⟩
  c_PLACES := ⟨_, PySem.W.mg_of X G z_PLACES, _, rfl⟩
end L_k14
open PySem PySem.W PyProof.Rows
set_option maxHeartbeats 0 in
theorem PySem.Challenge.cw_semaphores_k14_whole_turns_of_arms_holds : PySem.Challenge.rw_semaphores_k14_whole_turns_of_arms.Holds := by
  w_on; o_law; k_head; (case hw => w_witness2)
  k_fill
  refine L2.walk_of (l := PySem.Challenge.rw_semaphores_k14_whole_turns_of_arms) (n := 63) (k := 11) (x := "script") (CX := fun w => L2.CX PySem.Challenge.rw_semaphores_k14_whole_turns_of_arms.prog w) (sp := fun w => MP.spLawV _) rfl (by decide) rfl ⟨rfl, by decide, by decide⟩ (fun w h Y => PySem.W.kIn_of Y) ?F (fun _ _ a ns hl _ hS => ⟨a, ns, rfl, hS, hl, fun _ => rfl⟩) (fun w H s e s' z => by obtain ⟨_, _, _, _, _, _, _, _, _, _, _, _, hz⟩ := z; exact hz)
  case F =>
    intro w mg fa h KX G hmg
    refine MP.law_top (st := L_k14.s_law) h hmg ?fdx (fun base => L_k14.v_law (P := PySem.Challenge.rw_semaphores_k14_whole_turns_of_arms.prog) (w := w) (base := base) ?T L_k14.law_ok)
    case fdx =>
      intro s v f fd F
      obtain ⟨_, _, _, _, _, _, _, _, _, rfl, _, _⟩ := F.ex
      exact .of_eq rfl
    case T =>
      refine' L_k14.top_mk KX G ?a0 ?l0 ?c0 ?k0 ?a1 ?l1 ?c1 ?k1 ?a2 ?l2 ?c2 ?k2 ?a3 ?l3 ?c3 ?k3 ?a4 ?l4 ?c4 ?k4 ?a5 ?l5 ?c5 ?k5 ?a6 ?l6 ?c6 ?k6 ?a7 ?l7 ?c7 ?k7 ?a8 ?l8 ?c8 ?k8 ?a9 ?l9 ?c9 ?k9 ?a10 ?l10 ?c10 ?k10 ?a11 ?l11 ?c11 ?k11 ?a12 ?l12 ?c12 ?k12 ?a13 ?l13 ?c13 ?k13 ?a14 ?l14 ?c14 ?k14 ?a15 ?l15 ?c15 ?k15 ?a16 ?l16 ?c16 ?k16 ?a17 ?l17 ?c17 ?k17 ?a18 ?l18 ?c18 ?k18 ?a19 ?l19 ?c19 ?k19 ?a20 ?l20 ?c20 ?k20 ?a21 ?l21 ?c21 ?k21 ?a22 ?l22 ?c22 ?k22 ?a23 ?l23 ?c23 ?k23 ?a24 ?l24 ?c24 ?k24 ?a25 ?l25 ?c25 ?k25 ?a26 ?l26 ?c26 ?k26 ?a27 ?l27 ?c27 ?k27 ?a28 ?l28 ?c28 ?k28 ?a29 ?l29 ?c29 ?k29 ?a30 ?l30 ?c30 ?k30 ?a31 ?l31 ?c31 ?k31 ?a32 ?l32 ?c32 ?k32 ?z_abs ?z_all ?z_bool ?z_enumerate ?z_int ?z_isinstance ?z_len ?z_list ?z_min ?z_range ?z_set ?z_sorted ?z_str ?z_sum ?z_tuple ?z_zip ?z_ARMS ?z_LISTED ?z_PLACES
      (case a0 => k_is); (case l0 => k_is); (case c0 => k_is); (case k0 => k_is); (case a1 => k_is); (case l1 => k_is); (case c1 => k_is); (case k1 => k_is); (case a2 => k_is); (case l2 => k_is); (case c2 => k_is); (case k2 => k_is); (case a3 => k_is); (case l3 => k_is); (case c3 => k_is); (case k3 => k_is); (case a4 => k_is); (case l4 => k_is); (case c4 => k_is); (case k4 => k_is); (case a5 => k_is); (case l5 => k_is); (case c5 => k_is); (case k5 => k_is); (case a6 => k_is); (case l6 => k_is); (case c6 => k_is); (case k6 => k_is); (case a7 => k_is); (case l7 => k_is); (case c7 => k_is); (case k7 => k_is); (case a8 => k_is); (case l8 => k_is); (case c8 => k_is); (case k8 => k_is); (case a9 => k_is); (case l9 => k_is); (case c9 => k_is); (case k9 => k_is); (case a10 => k_is); (case l10 => k_is); (case c10 => k_is); (case k10 => k_is); (case a11 => k_is); (case l11 => k_is); (case c11 => k_is); (case k11 => k_is); (case a12 => k_is); (case l12 => k_is); (case c12 => k_is); (case k12 => k_is); (case a13 => k_is); (case l13 => k_is); (case c13 => k_is); (case k13 => k_is); (case a14 => k_is); (case l14 => k_is); (case c14 => k_is); (case k14 => k_is); (case a15 => k_is); (case l15 => k_is); (case c15 => k_is); (case k15 => k_is); (case a16 => k_is); (case l16 => k_is); (case c16 => k_is); (case k16 => k_is); (case a17 => k_is); (case l17 => k_is); (case c17 => k_is); (case k17 => k_is); (case a18 => k_is); (case l18 => k_is); (case c18 => k_is); (case k18 => k_is); (case a19 => k_is); (case l19 => k_is); (case c19 => k_is); (case k19 => k_is); (case a20 => k_is); (case l20 => k_is); (case c20 => k_is); (case k20 => k_is); (case a21 => k_is); (case l21 => k_is); (case c21 => k_is); (case k21 => k_is); (case a22 => k_is); (case l22 => k_is); (case c22 => k_is); (case k22 => k_is); (case a23 => k_is); (case l23 => k_is); (case c23 => k_is); (case k23 => k_is); (case a24 => k_is); (case l24 => k_is); (case c24 => k_is); (case k24 => k_is); (case a25 => k_is); (case l25 => k_is); (case c25 => k_is); (case k25 => k_is); (case a26 => k_is); (case l26 => k_is); (case c26 => k_is); (case k26 => k_is); (case a27 => k_is); (case l27 => k_is); (case c27 => k_is); (case k27 => k_is); (case a28 => k_is); (case l28 => k_is); (case c28 => k_is); (case k28 => k_is); (case a29 => k_is); (case l29 => k_is); (case c29 => k_is); (case k29 => k_is); (case a30 => k_is); (case l30 => k_is); (case c30 => k_is); (case k30 => k_is); (case a31 => k_is); (case l31 => k_is); (case c31 => k_is); (case k31 => k_is); (case a32 => k_is); (case l32 => k_is); (case c32 => k_is); (case k32 => k_is); (case z_abs => k_is); (case z_all => k_is); (case z_bool => k_is); (case z_enumerate => k_is); (case z_int => k_is); (case z_isinstance => k_is); (case z_len => k_is); (case z_list => k_is); (case z_min => k_is); (case z_range => k_is); (case z_set => k_is); (case z_sorted => k_is); (case z_str => k_is); (case z_sum => k_is); (case z_tuple => k_is); (case z_zip => k_is); (case z_ARMS => k_is); (case z_LISTED => k_is); (case z_PLACES => k_is)
