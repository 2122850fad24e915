import PyProof.Rows.All
import Wide.All
import OpenK.AllK
import Wide.FinOn
import KE.KStateDown
import KE.KFromBytes
import HandS.ForMost
import HandS.Exc
import HandS.ExcOwn
import HandS.ExcInit
import HandS.ExcField
import HandS.TryOnly
import HandS.TryMany
import HandS.WordsExc
import HandS.CallSlots
import HandS.Defaults
import HandS.IsInst
import HandS.OwnEq
import HandS.Flow
import HandS.Zip
import HandS.ClsMeth
import HandS.Style
import HandS.Deep
import HandS.HeadHook2
import HandS.TupLen
import HandS.Conv
import KE.GoesEnum
import HandS.Iter
import HandS.Comp
import HandS.DictEq
import HandS.DictComp
import PyProof.FactsAll.subtypes
import HandS.SortOrd
import HandS.SortInts
import HandS.HeadEnd
import HandS.Ends
import Lean
import HandS.Words
import HandS.Head0
import HandS.Head1
import HandS.Head2
import HandS.More
import PySem.Challenge.RW_rightordark_k10_plain_nets_and_tops
import HandS.Text
set_option Elab.async false
set_option linter.all false
set_option maxRecDepth 100000
set_option maxHeartbeats 4000000
set_option autoImplicit false
/-! DL: Python over plain data. A def's meaning is a Lean function on data trees and a list of mutable cells. -/
namespace DL
open PySem PySem.Spec PyProof.Rows L2

/-- data: cel k is the k-th mutable cell -/
inductive D where
  | non | bl (b : Bool) | int (i : Int) | str (x : Str)
  | lst (xs : List D) | tup (xs : List D) | fl (ns : List Int) | kt (xs : List D)
  | dk (ks : List Key) (ds : List D) | dt (ks : List (List Key)) (ds : List D)
  | obj (c : Str) (fs : List Str) (ds : List D)
  | cel (k : Nat)
/-- what a mutable cell holds -/
inductive C where
  | lst (xs : List D) | dk (ks : List Key) (ds : List D) | dt (ks : List (List Key)) (ds : List D)
  | ins (c : Str) (fs : List Str) (ds : List D)
abbrev Mem := List (Option C)
abbrev Env := List (Option D)

/-- a world: the written part, classes by name, the heap, the cells' addresses, the cells -/
structure Wd where
  K : PySem.W.Frag
  cl : Str → Addr
  H : Hp
  ad : Nat → Addr
  mem : Mem
  rs : Addr → Prop
def Wd.live (w : Wd) (p : Addr) : Prop := ∃ k c, w.mem[k]? = some (some c) ∧ w.ad k = p
/-- a cell's address, or one that is held back (a list that a comprehension fills) -/
def Wd.lv (w : Wd) (p : Addr) : Prop := w.live p ∨ w.rs p

/-- the script's list: frozen, or written -/
def FlAt (K : PySem.W.Frag) (H : Hp) (p : Addr) (vs : List V) : Prop := (∃ o, H p = some (.frz o (.lst vs))) ∨
  ∃ (o : Obj) (its : Array Value) (n : Nat), K.lookup p = some o ∧ o.cls = .type "list" ∧ o.dict = none ∧ o.data = .seq its n ∧ its.size ≤ sizeLine ∧ Vals vs its.toList
theorem FlAt.sq {K : PySem.W.Frag} {H : Hp} {p : Addr} {vs : List V} (h : FlAt K H p vs) : SqL K H p vs := h.elim (fun ⟨o, h⟩ => .inl (.inr ⟨o, h⟩)) .inr
mutual
inductive Rep (w : Wd) : D → V → Prop
  | non : Rep w .non .non
  | bl {b : Bool} : Rep w (.bl b) (.bl b)
  | int {i : Int} : Rep w (.int i) (.int i)
  | str {x : Str} : Rep w (.str x) (.str x)
  | lst {p : Addr} {xs : List D} {vs : List V} : ¬ w.lv p → w.H p = some (.lst vs) → RepL w xs vs → Rep w (.lst xs) (.ref p)
  | tup {p : Addr} {xs : List D} {vs : List V} : w.H p = some (.tup vs) → RepL w xs vs → Rep w (.tup xs) (.ref p)
  | kt {p : Addr} {xs : List D} {vs : List V} : SqT w.K w.H p vs → RepL w xs vs → Rep w (.kt xs) (.ref p)
  | fl {p : Addr} {ns : List Int} : FlAt w.K w.H p (ns.map V.int) → Rep w (.fl ns) (.ref p)
  | dk {p : Addr} {ks : List Key} {ds : List D} {vs : List V} : ¬ w.lv p → w.H p = some (.dK (ks.zip vs)) → ks.length = ds.length → RepL w ds vs → Rep w (.dk ks ds) (.ref p)
  | dt {p : Addr} {ks : List (List Key)} {ds : List D} {vs : List V} : ¬ w.lv p → w.H p = some (.dT (ks.zip vs)) → ks.length = ds.length → RepL w ds vs → Rep w (.dt ks ds) (.ref p)
  | obj {p dx : Addr} {c : Str} {fs : List Str} {ds : List D} {vs : List V} : ¬ w.lv p → w.H p = some (.ins (w.cl c) dx (fs.zip vs)) → fs.length = ds.length → RepL w ds vs → Rep w (.obj c fs ds) (.ref p)
  | cel {k : Nat} : k < w.mem.length → Rep w (.cel k) (.ref (w.ad k))
inductive RepL (w : Wd) : List D → List V → Prop
  | nil : RepL w [] []
  | cons {d : D} {v : V} {ds : List D} {vs : List V} : Rep w d v → RepL w ds vs → RepL w (d :: ds) (v :: vs)
end

/-- the world has grown: what was not live stands as it stood -/
structure Ext (w w' : Wd) : Prop where
  K : w'.K = w.K
  cl : w'.cl = w.cl
  len : w.mem.length ≤ w'.mem.length
  adr : ∀ k, k < w.mem.length → w'.ad k = w.ad k
  keep : ∀ a o, w.H a = some o → ¬ w.lv a → w'.H a = some o ∧ ¬ w'.lv a
  tups : ∀ a xs, w.H a = some (.tup xs) → w'.H a = some (.tup xs)
  frzs : ∀ a o u, w.H a = some (.frz o u) → w'.H a = some (.frz o u)
  back : ∀ a, w'.H a = none → w.H a = none
  rs : ∀ a, w.rs a → w'.rs a
  rsk : ∀ a, w.rs a → w'.H a = w.H a
theorem Ext.refl (w : Wd) : Ext w w := ⟨rfl, rfl, Nat.le_refl _, fun _ _ => rfl, fun _ _ h n => ⟨h, n⟩, fun _ _ h => h, fun _ _ _ h => h, fun _ h => h, fun _ h => h, fun _ _ => rfl⟩
theorem Ext.trans {w w1 w2 : Wd} (a : Ext w w1) (b : Ext w1 w2) : Ext w w2 where
  K := b.K.trans a.K
  cl := b.cl.trans a.cl
  len := Nat.le_trans a.len b.len
  adr := fun k hk => (b.adr k (Nat.lt_of_lt_of_le hk a.len)).trans (a.adr k hk)
  keep := fun p o h n => let ⟨h1, n1⟩ := a.keep p o h n; b.keep p o h1 n1
  tups := fun p xs h => b.tups p xs (a.tups p xs h)
  frzs := fun p o u h => b.frzs p o u (a.frzs p o u h)
  back := fun p h => a.back p (b.back p h)
  rs := fun p h => b.rs p (a.rs p h)
  rsk := fun p h => (b.rsk p (a.rs p h)).trans (a.rsk p h)
theorem Ext.sqT {w w' : Wd} (e : Ext w w') {p : Addr} {vs : List V} (h : SqT w.K w.H p vs) : SqT w'.K w'.H p vs := by
  rw [e.K]
  rcases h with (h | ⟨o, h⟩) | h
  · exact .inl (.inl (e.tups _ _ h))
  · exact .inl (.inr ⟨o, e.frzs _ _ _ h⟩)
  · exact .inr h
theorem Ext.flAt {w w' : Wd} (e : Ext w w') {p : Addr} {vs : List V} (h : FlAt w.K w.H p vs) : FlAt w'.K w'.H p vs := by
  rw [e.K]
  exact h.imp (fun ⟨o, h⟩ => ⟨o, e.frzs _ _ _ h⟩) id
mutual
theorem Rep.mono {w w' : Wd} (e : Ext w w') : ∀ {d : D} {v : V}, Rep w d v → Rep w' d v
  | _, _, .non => .non
  | _, _, .bl => .bl
  | _, _, .int => .int
  | _, _, .str => .str
  | _, _, .lst n h r => .lst (e.keep _ _ h n).2 (e.keep _ _ h n).1 (RepL.mono e r)
  | _, _, .tup h r => .tup (e.tups _ _ h) (RepL.mono e r)
  | _, _, .kt h r => .kt (e.sqT h) (RepL.mono e r)
  | _, _, .fl h => .fl (e.flAt h)
  | _, _, .dk n h l r => .dk (e.keep _ _ h n).2 (e.keep _ _ h n).1 l (RepL.mono e r)
  | _, _, .dt n h l r => .dt (e.keep _ _ h n).2 (e.keep _ _ h n).1 l (RepL.mono e r)
  | _, _, .obj (dx := dx) n h l r => .obj (dx := dx) (e.keep _ _ h n).2 (by rw [e.cl]; exact (e.keep _ _ h n).1) l (RepL.mono e r)
  | _, _, .cel h => (e.adr _ h) ▸ .cel (Nat.lt_of_lt_of_le h e.len)
theorem RepL.mono {w w' : Wd} (e : Ext w w') : ∀ {ds : List D} {vs : List V}, RepL w ds vs → RepL w' ds vs
  | _, _, .nil => .nil
  | _, _, .cons a b => .cons (Rep.mono e a) (RepL.mono e b)
end
section
variable {w : Wd}
theorem RepL.len : ∀ {ds : List D} {vs : List V}, RepL w ds vs → ds.length = vs.length
  | _, _, .nil => rfl
  | _, _, .cons _ b => by rw [List.length_cons, List.length_cons, RepL.len b]
theorem RepL.get : ∀ {ds : List D} {vs : List V} {i : Nat} {d : D}, RepL w ds vs → ds[i]? = some d → ∃ v, vs[i]? = some v ∧ Rep w d v
  | _, _, _, _, .nil, e => by simp at e
  | _, _, 0, _, .cons a _, e => by
    simp at e
    subst e
    exact ⟨_, rfl, a⟩
  | _, _, i + 1, d, .cons _ b, e => by
    obtain ⟨v, h1, h2⟩ := RepL.get (i := i) (d := d) b (by simpa using e)
    exact ⟨v, by simpa using h1, h2⟩
theorem RepL.getV : ∀ {ds : List D} {vs : List V} {i : Nat} {v : V}, RepL w ds vs → vs[i]? = some v → ∃ d, ds[i]? = some d ∧ Rep w d v
  | _, _, _, _, .nil, e => by simp at e
  | _, _, 0, _, .cons a _, e => by
    simp at e
    subst e
    exact ⟨_, rfl, a⟩
  | _, _, i + 1, v, .cons _ b, e => by
    obtain ⟨d, h1, h2⟩ := RepL.getV (i := i) (v := v) b (by simpa using e)
    exact ⟨d, by simpa using h1, h2⟩
theorem RepL.append : ∀ {a b : List D} {us vs : List V}, RepL w a us → RepL w b vs → RepL w (a ++ b) (us ++ vs)
  | _, _, _, _, .nil, s => s
  | _, _, _, _, .cons r t, s => .cons r (RepL.append t s)
theorem RepL.snoc {ds : List D} {vs : List V} {d : D} {v : V} (a : RepL w ds vs) (b : Rep w d v) : RepL w (ds ++ [d]) (vs ++ [v]) := a.append (.cons b .nil)
theorem RepL.take : ∀ {ds : List D} {vs : List V} (n : Nat), RepL w ds vs → RepL w (ds.take n) (vs.take n)
  | _, _, 0, _ => .nil
  | _, _, _ + 1, .nil => .nil
  | _, _, n + 1, .cons r t => .cons r (RepL.take n t)
theorem RepL.drop : ∀ {ds : List D} {vs : List V} (n : Nat), RepL w ds vs → RepL w (ds.drop n) (vs.drop n)
  | _, _, 0, r => r
  | _, _, _ + 1, .nil => .nil
  | _, _, n + 1, .cons _ t => RepL.drop n t
theorem RepL.set {d : D} {v : V} (r : Rep w d v) : ∀ {ds : List D} {vs : List V} (i : Nat), RepL w ds vs → RepL w (ds.set i d) (vs.set i v)
  | _, _, _, .nil => .nil
  | _, _, 0, .cons _ t => .cons r t
  | _, _, i + 1, .cons q t => .cons q (RepL.set r i t)
theorem RepL.erase : ∀ {ds : List D} {vs : List V} (i : Nat), RepL w ds vs → RepL w (ds.eraseIdx i) (vs.eraseIdx i)
  | _, _, _, .nil => .nil
  | _, _, 0, .cons _ t => t
  | _, _, i + 1, .cons q t => .cons q (RepL.erase i t)
theorem RepL.ints : ∀ {ns : List Int} {vs : List V}, RepL w (ns.map D.int) vs → vs = ns.map V.int
  | [], _, .nil => rfl
  | n :: ns, _, .cons .int t => by rw [List.map_cons, RepL.ints t]
theorem RepL.of_ints : ∀ (ns : List Int), RepL w (ns.map D.int) (ns.map V.int)
  | [] => .nil
  | _ :: r => .cons .int (RepL.of_ints r)
theorem RepL.strs : ∀ {ns : List Str} {vs : List V}, RepL w (ns.map D.str) vs → vs = ns.map V.str
  | [], _, .nil => rfl
  | n :: ns, _, .cons .str t => by rw [List.map_cons, RepL.strs t]
theorem RepL.bls : ∀ {ns : List Bool} {vs : List V}, RepL w (ns.map D.bl) vs → vs = ns.map V.bl
  | [], _, .nil => rfl
  | n :: ns, _, .cons .bl t => by rw [List.map_cons, RepL.bls t]
end
/-- a cell's content stands at its address -/
def CellOk (w : Wd) (k : Nat) : C → Prop
  | .lst xs => ∃ vs, w.H (w.ad k) = some (.lst vs) ∧ RepL w xs vs
  | .dk ks ds => ∃ vs, w.H (w.ad k) = some (.dK (ks.zip vs)) ∧ ks.length = ds.length ∧ RepL w ds vs
  | .dt ks ds => ∃ vs, w.H (w.ad k) = some (.dT (ks.zip vs)) ∧ ks.length = ds.length ∧ RepL w ds vs
  | .ins c fs ds => ∃ dx vs, w.H (w.ad k) = some (.ins (w.cl c) dx (fs.zip vs)) ∧ fs.length = ds.length ∧ RepL w ds vs
structure Wok (w : Wd) : Prop where
  cell : ∀ k c, w.mem[k]? = some (some c) → CellOk w k c
  inj : ∀ j k c e, w.mem[j]? = some (some c) → w.mem[k]? = some (some e) → w.ad j = w.ad k → j = k
  nrs : ∀ k c, w.mem[k]? = some (some c) → ¬ w.rs (w.ad k)
  rso : ∀ a, w.rs a → ∃ xs, w.H a = some (.lst xs)
/-- slots and data -/
structure Rel (w : Wd) (σ : L2.St) (env : Env) : Prop where
  ok : Wok w
  len : env.length = σ.length
  get : ∀ (i : Nat) (d : D), env[i]? = some (some d) → ∃ v : V, σ[i]? = some (some v) ∧ Rep w d v
theorem Rel.mono {w w' : Wd} {σ : L2.St} {env : Env} (r : Rel w σ env) (e : Ext w w') (ok : Wok w') : Rel w' σ env :=
  ⟨ok, r.len, fun i d h => let ⟨v, h1, h2⟩ := r.get i d h; ⟨v, h1, h2.mono e⟩⟩
theorem Rel.set {w : Wd} {σ : L2.St} {env : Env} {d : D} {v : V} (r : Rel w σ env) (i : Nat) (q : Rep w d v) : Rel w (σ.set i (some v)) (env.set i (some d)) := by
  refine ⟨r.ok, by simp [r.len], fun j e h => ?_⟩
  by_cases hj : i = j
  · subst hj
    by_cases hl : i < env.length
    · rw [List.getElem?_set_self hl] at h
      cases h
      exact ⟨v, by rw [List.getElem?_set_self (by rw [← r.len]; exact hl)], q⟩
    · rw [List.getElem?_eq_none (by simpa using hl)] at h
      cases h
  · rw [List.getElem?_set_ne hj] at h
    rw [List.getElem?_set_ne hj]
    exact r.get j e h
theorem Rel.wipe1 {w : Wd} {σ : L2.St} {env : Env} (r : Rel w σ env) (i : Nat) : Rel w (σ.set i none) (env.set i none) := by
  refine ⟨r.ok, by simp [r.len], fun j e h => ?_⟩
  by_cases hj : i = j
  · subst hj
    by_cases hl : i < env.length
    · rw [List.getElem?_set_self hl] at h
      cases h
    · rw [List.getElem?_eq_none (by simpa using hl)] at h
      cases h
  · rw [List.getElem?_set_ne hj] at h
    rw [List.getElem?_set_ne hj]
    exact r.get j e h
def wipeE (env : Env) : List Nat → Env
  | [] => env
  | v :: vs => (wipeE env vs).set v none
theorem Rel.wipe {w : Wd} {σ : L2.St} {env : Env} (r : Rel w σ env) : ∀ vs : List Nat, Rel w (L2.wipe σ vs) (wipeE env vs)
  | [] => r
  | v :: vs => (Rel.wipe r vs).wipe1 v

/-! ### what comes of a piece of code -/
inductive R (α : Type) where
  | ok (a : α) (m : Mem)
  | ex (c : Str) (fs : List Str) (ds : List D) (m : Mem)
  | st
/-- .. of a statement: on, return, break, continue, an exception -/
inductive S where
  | nx (e : Env) (m : Mem) | rt (d : D) (m : Mem) | bk (e : Env) (m : Mem) | ct (e : Env) (m : Mem)
  | ex (c : Str) (fs : List Str) (ds : List D) (e : Env) (m : Mem)
  | st
@[reducible] def R.bind {α β : Type} (r : R α) (f : α → Mem → R β) : R β := match r with
  | .ok a m => f a m
  | .ex c fs ds m => .ex c fs ds m
  | .st => .st
abbrev FE := Env → Mem → R D
abbrev FT := Env → Mem → R Bool
abbrev FA := Env → Mem → R (List D)
abbrev FS := Env → Mem → S

/-- what a context adds: classes by name, the wish of exceptions, what else is known -/
structure Dx where
  cl : Str → Addr
  W : WX
  xi : Wd → Prop
  xs : ∀ w w', Ext w w' → xi w → xi w'

section
variable (X : Cx) (G : Dx)
structure At (w : Wd) (σ : L2.St) (H : Hp) (env : Env) : Prop where
  K : w.K = X.K
  cl : w.cl = G.cl
  H : w.H = H
  rel : Rel w σ env
  xi : G.xi w
/-- what comes of code that ends or raises, the slots as they are -/
def Out {α : Type} (w : Wd) (σ : L2.St) (P : α → Wd → Prop) : R α → Prop
  | .ok a m => ∀ w', Ext w w' → w'.mem = m → Wok w' → P a w'
  | .ex c fs ds m => ∀ w' dd vs, Ext w w' → w'.mem = m → Wok w' → w'.H dd = some (.xd (fs.zip vs)) → fs.length = ds.length → RepL w' ds vs → G.W (.ref (G.cl c)) (some dd) σ w'.H
  | .st => False
def OutS (w : Wd) (E : Ends) : S → Prop
  | .nx e m => ∀ w' σ', Ext w w' → w'.mem = m → Rel w' σ' e → E.nx σ' w'.H
  | .bk e m => ∀ w' σ', Ext w w' → w'.mem = m → Rel w' σ' e → E.bk σ' w'.H
  | .ct e m => ∀ w' σ', Ext w w' → w'.mem = m → Rel w' σ' e → E.ct σ' w'.H
  | .rt d m => ∀ w' v, Ext w w' → w'.mem = m → Wok w' → Rep w' d v → E.rt v w'.H
  | .ex c fs ds e m => ∀ w' σ' dd vs, Ext w w' → w'.mem = m → Rel w' σ' e → w'.H dd = some (.xd (fs.zip vs)) → fs.length = ds.length → RepL w' ds vs → G.W (.ref (G.cl c)) (some dd) σ' w'.H
  | .st => False
/-- a value that stands for data -/
abbrev PD (Q : VK) : D → Wd → Prop := fun d w => ∀ v, Rep w d v → Q v w.H
abbrev PB (Q : Bool → Hp → Prop) : Bool → Wd → Prop := fun b w => Q b w.H
abbrev PL (Q : List V → Hp → Prop) : List D → Wd → Prop := fun ds w => ∀ vs, RepL w ds vs → Q vs w.H
def asE (f : FE) : TE := fun σ H Q => ∃ w env, At X G w σ H env ∧ Out G w σ (PD Q) (f env w.mem)
def asT (f : FT) : TT := fun σ H Q => ∃ w env, At X G w σ H env ∧ Out G w σ (PB Q) (f env w.mem)
def asA (f : FA) : TA := fun σ H Q => ∃ w env, At X G w σ H env ∧ Out G w σ (PL Q) (f env w.mem)
def asS (f : FS) : TS := fun E σ H => ∃ w env, At X G w σ H env ∧ OutS G w E (f env w.mem)
abbrev DE (e : Expr) (f : FE) : Prop := PE X e (asE X G f)
abbrev DT (e : Expr) (f : FT) : Prop := PT X e (asT X G f)
abbrev DA (es : List Expr) (f : FA) : Prop := PA X es (asA X G f)
abbrev DSt (s : Stmt) (f : FS) : Prop := PS X s (asS X G f)
abbrev DSs (s : List Stmt) (f : FS) : Prop := PSs X s (asS X G f)
end
/-- an expression within a statement -/
@[reducible] def R.bindS {α : Type} (r : R α) (env : Env) (f : α → Mem → S) : S := match r with
  | .ok a m => f a m
  | .ex c fs ds m => .ex c fs ds env m
  | .st => .st
@[reducible] def S.bind (r : S) (f : Env → Mem → S) : S := match r with
  | .nx e m => f e m
  | r => r

section
variable {X : Cx} {G : Dx} {w w' : Wd} {σ : L2.St} {H : Hp} {env : Env}
theorem At.go (a : At X G w σ H env) (e : Ext w w') (ok : Wok w') : At X G w' σ w'.H env :=
  ⟨e.K.trans a.K, e.cl.trans a.cl, rfl, a.rel.mono e ok, G.xs _ _ e a.xi⟩
theorem At.self' (a : At X G w σ H env) : At X G w σ w.H env := ⟨a.K, a.cl, rfl, a.rel, a.xi⟩
theorem At.to {σ' : L2.St} {env' : Env} (a : At X G w σ H env) (e : Ext w w') (r : Rel w' σ' env') : At X G w' σ' w'.H env' :=
  ⟨e.K.trans a.K, e.cl.trans a.cl, rfl, r, G.xs _ _ e a.xi⟩
theorem Out.ext {α : Type} {P : α → Wd → Prop} {r : R α} (h : Out G w σ P r) (e : Ext w w') : Out G w' σ P r := by
  cases r with
  | ok d m => exact fun w2 e2 => h w2 (e.trans e2)
  | ex c fs ds m => exact fun w2 dd vs e2 => h w2 dd vs (e.trans e2)
  | st => exact h.elim
theorem OutS.ext {r : S} {E : Ends} (h : OutS G w E r) (e : Ext w w') : OutS G w' E r := by
  cases r with
  | nx v m => exact fun w2 v e2 => h w2 v (e.trans e2)
  | bk v m => exact fun w2 v e2 => h w2 v (e.trans e2)
  | ct v m => exact fun w2 v e2 => h w2 v (e.trans e2)
  | rt d m => exact fun w2 v e2 => h w2 v (e.trans e2)
  | ex c fs ds v m => exact fun w2 σ2 dd vs e2 => h w2 σ2 dd vs (e.trans e2)
  | st => exact h.elim
theorem Out.imp {α : Type} {P P' : α → Wd → Prop} {r : R α} (h : Out G w σ P r) (i : ∀ a w', Ext w w' → Wok w' → P a w' → P' a w') : Out G w σ P' r := by
  cases r with
  | ok d m => exact fun w2 e2 hm ok => i _ _ e2 ok (h w2 e2 hm ok)
  | ex c fs ds m => exact h
  | st => exact h.elim
/-- one part, then another -/
theorem Out.seq {α β : Type} {P : β → Wd → Prop} {r : R α} {k : α → Mem → R β} (h : Out G w σ P (r.bind k)) : Out G w σ (fun a w' => Out G w' σ P (k a w'.mem)) r := by
  cases r with
  | ok a m =>
    intro w2 e2 hm ok
    have h1 : Out G w σ P (k a m) := h
    rw [hm]
    exact h1.ext e2
  | ex c fs ds m => exact h
  | st => exact h.elim
theorem Out.seqS {α : Type} {E : Ends} {r : R α} {k : α → Mem → S} (h : OutS G w E (r.bindS env k)) (rel : Rel w σ env) : Out G w σ (fun a w' => OutS G w' E (k a w'.mem)) r := by
  cases r with
  | ok a m =>
    intro w2 e2 hm ok
    have h1 : OutS G w E (k a m) := h
    rw [hm]
    exact h1.ext e2
  | ex c fs ds m => exact fun w2 dd vs e2 hm ok hx hl r => h w2 σ dd vs e2 hm (rel.mono e2 ok) hx hl r
  | st => exact h.elim
theorem OutS.seq {E : Ends} {r : S} {k : Env → Mem → S} (h : OutS G w E (r.bind k)) (Y : L2.St → Hp → Prop) (y : ∀ e m w' σ', Ext w w' → w'.mem = m → Rel w' σ' e → OutS G w' E (k e m) → Y σ' w'.H) : OutS G w { E with nx := Y } r := by
  cases r with
  | nx e m =>
    intro w2 σ2 e2 hm r2
    have h1 : OutS G w E (k e m) := h
    exact y e m w2 σ2 e2 hm r2 (h1.ext e2)
  | bk e m => exact h
  | ct e m => exact h
  | rt d m => exact h
  | ex c fs ds e m => exact h
  | st => exact h.elim
/-- where an end is reached at once -/
theorem Out.here {α : Type} {P : α → Wd → Prop} {a : α} (h : Out G w σ P (.ok a w.mem)) (ok : Wok w) : P a w := h w (Ext.refl w) rfl ok
end

/-! ### blocks -/
section
variable {X : Cx} {G : Dx} {s : Stmt} {ss : List Stmt} {f g : FS}
@[reducible] def fSeq (f g : FS) : FS := fun env m => (f env m).bind g
def fNext : FS := fun env m => .nx env m
theorem dss_nil : DSs X G [] fNext := ⟨fun pins s σ H E I h => by
  obtain ⟨w, env, a, h⟩ := h
  refine pss_nil.run pins s σ H E I ?_
  have z := h w σ (Ext.refl w) rfl a.rel
  rw [a.H] at z
  exact z⟩
theorem dss_cons (h1 : DSt X G s f) (h2 : DSs X G ss g) : DSs X G (s :: ss) (fSeq f g) := ⟨fun pins s σ H E I h => by
  obtain ⟨w, env, a, h⟩ := h
  refine (pss_cons h1 h2).run pins s σ H E I ?_
  refine ⟨w, env, a, OutS.seq h _ fun e m w' σ' x hm r q => ⟨w', e, a.to x r, ?_⟩⟩
  rw [hm]
  exact q⟩
theorem dss_one (h1 : DSt X G s f) : DSs X G [s] f := ⟨fun pins s σ H E I h => (pss_one h1).run pins s σ H E I h⟩
end
end DL
/-! DL1: new objects, names, operators, comparisons, tests. -/
namespace DL
open PySem PySem.Spec PyProof.Rows L2

/-! ### a new object -/
def Wd.put (w : Wd) (p : Addr) (o : HO) : Wd := { w with H := upd w.H p o }
section
variable {w : Wd} {p : Addr} {o : HO}
theorem Wok.live_some (ok : Wok w) {k : Nat} {c : C} (h : w.mem[k]? = some (some c)) : ∃ o, w.H (w.ad k) = some o := by
  have q := ok.cell k c h
  cases c with
  | lst xs =>
    obtain ⟨vs, h, _⟩ := q
    exact ⟨_, h⟩
  | dk ks ds =>
    obtain ⟨vs, h, _⟩ := q
    exact ⟨_, h⟩
  | dt ks ds =>
    obtain ⟨vs, h, _⟩ := q
    exact ⟨_, h⟩
  | ins c fs ds =>
    obtain ⟨dx, vs, h, _⟩ := q
    exact ⟨_, h⟩
theorem Wok.lv_some (ok : Wok w) {a : Addr} (h : w.lv a) : ∃ o, w.H a = some o := by
  rcases h with ⟨k, c, hk, rfl⟩ | h
  · exact ok.live_some hk
  · obtain ⟨xs, e⟩ := ok.rso a h
    exact ⟨_, e⟩
theorem Wok.not_lv (ok : Wok w) {a : Addr} (h : w.H a = none) : ¬ w.lv a := fun z => by
  obtain ⟨o, e⟩ := ok.lv_some z
  rw [h] at e
  cases e
theorem Ext.put (ok : Wok w) (h : w.H p = none) : Ext w (w.put p o) where
  K := rfl
  cl := rfl
  len := Nat.le_refl _
  adr := fun _ _ => rfl
  keep := fun a u e n => ⟨by show upd w.H p o a = _; rw [upd_ne (ne_of_none e h)]; exact e, n⟩
  tups := fun a xs e => by show upd w.H p o a = _; rw [upd_ne (ne_of_none e h)]; exact e
  frzs := fun a u x e => by show upd w.H p o a = _; rw [upd_ne (ne_of_none e h)]; exact e
  back := fun a e => by
    have e1 : upd w.H p o a = none := e
    by_cases z : a = p
    · rw [z, upd_same] at e1
      cases e1
    · rw [upd_ne z] at e1
      exact e1
  rs := fun _ h => h
  rsk := fun a r => by
    obtain ⟨u, e⟩ := ok.rso a r
    show upd w.H p o a = _
    rw [upd_ne (ne_of_none e h)]
/-- cells keep when the world grows and the mem is the same -/
theorem Wok.ext {w w' : Wd} (ok : Wok w) (e : Ext w w') (hm : w'.mem = w.mem) (hr : w'.rs = w.rs) (hc : ∀ k c, w.mem[k]? = some (some c) → w'.H (w.ad k) = w.H (w.ad k)) : Wok w' := by
  have hlt : ∀ {k c}, w.mem[k]? = some (some c) → k < w.mem.length := fun {k c} h => (List.getElem?_eq_some_iff.mp h).1
  refine ⟨fun k c h => ?_, fun j k c d h1 h2 q => ?_, fun k c h => ?_, fun a r => ?_⟩
  · rw [hm] at h
    have q := ok.cell k c h
    have ha := e.adr k (hlt h)
    have hH := hc k c h
    cases c with
    | lst xs =>
      obtain ⟨vs, h1, r⟩ := q
      exact ⟨vs, by rw [ha, hH]; exact h1, r.mono e⟩
    | dk ks ds =>
      obtain ⟨vs, h1, l, r⟩ := q
      exact ⟨vs, by rw [ha, hH]; exact h1, l, r.mono e⟩
    | dt ks ds =>
      obtain ⟨vs, h1, l, r⟩ := q
      exact ⟨vs, by rw [ha, hH]; exact h1, l, r.mono e⟩
    | ins c fs ds =>
      obtain ⟨dx, vs, h1, l, r⟩ := q
      exact ⟨dx, vs, by rw [ha, hH, e.cl]; exact h1, l, r.mono e⟩
  · rw [hm] at h1 h2
    rw [e.adr j (hlt h1), e.adr k (hlt h2)] at q
    exact ok.inj j k c d h1 h2 q
  · rw [hm] at h
    rw [e.adr k (hlt h), hr]
    exact ok.nrs k c h
  · rw [hr] at r
    obtain ⟨o, q⟩ := ok.rso a r
    exact ⟨o, by rw [e.rsk a r]; exact q⟩
theorem Wok.put (ok : Wok w) (h : w.H p = none) : Wok (w.put p o) := ok.ext (Ext.put ok h) rfl rfl fun k c hk => by
  obtain ⟨u, e⟩ := ok.live_some hk
  show upd w.H p o (w.ad k) = _
  rw [upd_ne (ne_of_none e h)]
theorem put_lst (ok : Wok w) (h : w.H p = none) {xs : List D} {vs : List V} (r : RepL w xs vs) : Rep (w.put p (.lst vs)) (.lst xs) (.ref p) := .lst (ok.not_lv h) upd_same (r.mono (Ext.put ok h))
theorem put_tup (ok : Wok w) (h : w.H p = none) {xs : List D} {vs : List V} (r : RepL w xs vs) : Rep (w.put p (.tup vs)) (.tup xs) (.ref p) := .tup upd_same (r.mono (Ext.put ok h))
end

/-! ### what a value is -/
def lstOf (m : Mem) : D → Option (List D)
  | .lst xs => some xs
  | .cel k => match m[k]? with
    | some (some (.lst xs)) => some xs
    | _ => none
  | _ => none
/-- a list that may be read -/
def rlstOf (m : Mem) : D → Option (List D)
  | .fl ns => some (ns.map D.int)
  | d => lstOf m d
theorem Rep.aslst {w : Wd} (ok : Wok w) {d : D} {v : V} {xs : List D} (r : Rep w d v) (h : lstOf w.mem d = some xs) : ∃ p vs, v = .ref p ∧ w.H p = some (.lst vs) ∧ RepL w xs vs := by
  cases r with
  | lst n e q =>
    cases h
    exact ⟨_, _, rfl, e, q⟩
  | @cel k hk =>
    have h1 : (match w.mem[k]? with
      | some (some (.lst xs)) => some xs
      | _ => none) = some xs := h
    split at h1
    · rename_i ys e
      cases h1
      obtain ⟨vs, e2, q⟩ := ok.cell k _ e
      exact ⟨_, vs, rfl, e2, q⟩
    · cases h1
  | _ => cases h
theorem Rep.asrlst {w : Wd} (ok : Wok w) {d : D} {v : V} {xs : List D} (r : Rep w d v) (h : rlstOf w.mem d = some xs) : ∃ p vs, v = .ref p ∧ SqL w.K w.H p vs ∧ RepL w xs vs := by
  cases r with
  | @fl p ns e =>
    cases h
    exact ⟨p, _, rfl, e.sq, RepL.of_ints ns⟩
  | lst n e q =>
    cases h
    exact ⟨_, _, rfl, SqL.of e, q⟩
  | @cel k hk =>
    obtain ⟨p, vs, e1, e2, q⟩ := Rep.aslst ok (.cel hk) (show lstOf w.mem (.cel k) = some xs from h)
    exact ⟨p, vs, e1, SqL.of e2, q⟩
  | _ => cases h
theorem Rep.astup {w : Wd} {v : V} {xs : List D} (r : Rep w (.tup xs) v) : ∃ p vs, v = .ref p ∧ w.H p = some (.tup vs) ∧ RepL w xs vs := by
  cases r with
  | tup e q => exact ⟨_, _, rfl, e, q⟩
def seqOf (m : Mem) : D → Option (List D)
  | .tup xs => some xs
  | .kt xs => some xs
  | d => rlstOf m d
theorem Rep.asseq {w : Wd} (ok : Wok w) {d : D} {v : V} {xs : List D} (r : Rep w d v) (h : seqOf w.mem d = some xs) : ∃ p vs, v = .ref p ∧ (SqL w.K w.H p vs ∨ SqT w.K w.H p vs) ∧ RepL w xs vs := by
  cases r with
  | tup e q =>
    cases h
    exact ⟨_, _, rfl, .inr (SqT.of e), q⟩
  | kt e q =>
    cases h
    exact ⟨_, _, rfl, .inr e, q⟩
  | non => cases h
  | bl => cases h
  | int => cases h
  | str => cases h
  | dk a b c d => cases h
  | dt a b c d => cases h
  | obj a b c d => cases h
  | lst n e q =>
    obtain ⟨p, vs, e1, e2, q⟩ := Rep.asrlst ok (.lst n e q) (show rlstOf w.mem (.lst _) = some xs from h)
    exact ⟨p, vs, e1, .inl e2, q⟩
  | fl e =>
    obtain ⟨p, vs, e1, e2, q⟩ := Rep.asrlst ok (.fl e) (show rlstOf w.mem (.fl _) = some xs from h)
    exact ⟨p, vs, e1, .inl e2, q⟩
  | cel e =>
    obtain ⟨p, vs, e1, e2, q⟩ := Rep.asrlst ok (.cel e) (show rlstOf w.mem (.cel _) = some xs from h)
    exact ⟨p, vs, e1, .inl e2, q⟩
/-- a dict: its keys (flat, or tuples) and values -/
inductive Dc where
  | k (ks : List Key) (ds : List D) | t (ks : List (List Key)) (ds : List D)
def dicOf (m : Mem) : D → Option Dc
  | .dk ks ds => some (.k ks ds)
  | .dt ks ds => some (.t ks ds)
  | .cel k => match m[k]? with
    | some (some (.dk ks ds)) => some (.k ks ds)
    | some (some (.dt ks ds)) => some (.t ks ds)
    | _ => none
  | _ => none
def DcAt (w : Wd) (p : Addr) : Dc → Prop
  | .k ks ds => ∃ vs, w.H p = some (.dK (ks.zip vs)) ∧ ks.length = ds.length ∧ RepL w ds vs
  | .t ks ds => ∃ vs, w.H p = some (.dT (ks.zip vs)) ∧ ks.length = ds.length ∧ RepL w ds vs
theorem Rep.asdic {w : Wd} (ok : Wok w) {d : D} {v : V} {c : Dc} (r : Rep w d v) (h : dicOf w.mem d = some c) : ∃ p, v = .ref p ∧ DcAt w p c := by
  cases r with
  | dk n e l q =>
    cases h
    exact ⟨_, rfl, _, e, l, q⟩
  | dt n e l q =>
    cases h
    exact ⟨_, rfl, _, e, l, q⟩
  | @cel k hk =>
    have h1 : (match w.mem[k]? with
      | some (some (.dk ks ds)) => some (Dc.k ks ds)
      | some (some (.dt ks ds)) => some (Dc.t ks ds)
      | _ => none) = some c := h
    split at h1
    · rename_i ks ds e
      cases h1
      exact ⟨_, rfl, ok.cell k _ e⟩
    · rename_i ks ds e
      cases h1
      exact ⟨_, rfl, ok.cell k _ e⟩
    · cases h1
  | _ => cases h

/-! ### names, constants -/
section
variable {X : Cx} {G : Dx} {pos : Pos}
theorem Out.now {α : Type} {w : Wd} {σ : L2.St} {H : Hp} {env : Env} {P : α → Wd → Prop} {r : R α} {a : α} (A : At X G w σ H env) (h : Out G w σ P r) (e : r = .ok a w.mem) : P a w := by
  rw [e] at h
  exact h w (Ext.refl w) rfl A.rel.ok
/-- a constant of no object -/
theorem de_c {e : Expr} {v : V} {d : D} (h : PE X e (tC v)) (r : ∀ w, Rep w d v) : DE X G e (fun _ m => .ok d m) := ⟨fun pins s σ H Q I q => by
  obtain ⟨w, env, a, o⟩ := q
  refine h.run pins s σ H Q I ?_
  have z := o.now a rfl v (r w)
  rw [a.H] at z
  exact z⟩
@[reducible] def fC (d : D) : FE := fun _ m => .ok d m
theorem de_int {i : Int} {j : Nat} : DE X G (.Constant (.int i) j pos) (fC (.int i)) := de_c pe_int fun _ => .int
theorem de_bl {b : Bool} {j : Nat} : DE X G (.Constant (.bool b) j pos) (fC (.bl b)) := de_c pe_bl fun _ => .bl
theorem de_non {j : Nat} : DE X G (.Constant .none j pos) (fC .non) := de_c pe_non fun _ => .non
theorem de_str {x : Str} {j : Nat} : DE X G (.Constant (.str x) j pos) (fC (.str x)) := de_c pe_str fun _ => .str
theorem de_gint {x : Str} {i : Int} (hg : Gl X x) (hm : ∃ t, X.mg x = some (.int i t)) (hd : (x == ("__debug__" : Str)) = false := by decide) : DE X G (.Name x pos) (fC (.int i)) := by
  obtain ⟨t, hm⟩ := hm
  exact de_c (pe_glob (v := .int i) hg hm ⟨t, rfl⟩ hd) fun _ => .int
theorem de_gstr {x z : Str} (hg : Gl X x) (hm : ∃ t, X.mg x = some (.str z t)) (hd : (x == ("__debug__" : Str)) = false := by decide) : DE X G (.Name x pos) (fC (.str z)) := by
  obtain ⟨t, hm⟩ := hm
  exact de_c (pe_glob (v := .str z) hg hm ⟨t, rfl⟩ hd) fun _ => .str
@[reducible] def fVar (i : Nat) : FE := fun env m => match env[i]? with
  | some (some d) => .ok d m
  | _ => .st
theorem de_var {i : Nat} {x : Str} (hN : X.N[i]? = some x := by rfl) (hv : Vis X.env.scope x := by first | exact Or.inl rfl | exact Or.inr (Or.inl rfl) | exact Or.inr (Or.inr rfl)) (hd : (x == ("__debug__" : Str)) = false := by decide)
    (hcd : (x == ("__classdict__" : Str)) = false := by decide) : DE X G (.Name x pos) (fVar i) := ⟨fun pins s σ H Q I q => by
  obtain ⟨w, env, a, o⟩ := q
  refine (pe_var hN hv hd hcd).run pins s σ H Q I ?_
  cases e : env[i]? with
  | none =>
    rw [show fVar i env w.mem = .st by simp [fVar, e]] at o
    exact o.elim
  | some z =>
    cases z with
    | none =>
      rw [show fVar i env w.mem = .st by simp [fVar, e]] at o
      exact o.elim
    | some d =>
      obtain ⟨v, h1, h2⟩ := a.rel.get i d e
      have z := o.now (a := d) a (by simp [fVar, e]) v h2
      rw [a.H] at z
      exact ⟨v, h1, z⟩⟩
end

/-! ### two operands -/
@[reducible] def fBin (op : Mem → D → D → R D) (fa fb : FE) : FE := fun env m => (fa env m).bind fun a m1 => (fb env m1).bind fun b m2 => op m2 a b
/-- what a rule by values must give -/
def Ru (X : Cx) (G : Dx) (r : R2) (op : Mem → D → D → R D) (a b : D) : Prop :=
  ∀ (w : Wd) (σ : L2.St) (H : Hp) (env : Env) (x y : V) (Q : VK), At X G w σ H env → Rep w a x → Rep w b y → Out G w σ (PD Q) (op w.mem a b) → r x y w.H Q
section
variable {X : Cx} {G : Dx} {pos : Pos} {a b : Expr} {fa fb : FE} {op : Mem → D → D → R D}
/-- what is read of two parts by a rule that suits their values -/
theorem bin_rd {w : Wd} {σ : L2.St} {H : Hp} {env : Env} {Q : VK} (A : At X G w σ H env) (h : Out G w σ (PD Q) (fBin op fa fb env w.mem)) {r : R2}
    (hr : ∀ a m1 b m2, fa env w.mem = .ok a m1 → fb env m1 = .ok b m2 → ∀ w', w'.mem = m2 → At X G w' σ w'.H env → ∀ x y, Rep w' a x → Rep w' b y → Out G w' σ (PD Q) (op m2 a b) → r x y w'.H Q) : tOp r (asE X G fa) (asE X G fb) σ H Q := by
  refine ⟨w, env, A, ?_⟩
  cases ea : fa env w.mem with
  | ex c fs ds m =>
    rw [show fBin op fa fb env w.mem = .ex c fs ds m by simp [fBin, R.bind, ea]] at h
    exact h
  | st =>
    rw [show fBin op fa fb env w.mem = .st by simp [fBin, R.bind, ea]] at h
    exact h.elim
  | ok a m1 =>
    intro w1 e1 hm1 ok1 x rx
    have A1 := A.go e1 ok1
    refine ⟨w1, env, A1, ?_⟩
    rw [hm1]
    cases eb : fb env m1 with
    | ex c fs ds m =>
      rw [show fBin op fa fb env w.mem = .ex c fs ds m by simp [fBin, R.bind, ea, eb]] at h
      exact h.ext e1
    | st =>
      rw [show fBin op fa fb env w.mem = .st by simp [fBin, R.bind, ea, eb]] at h
      exact h.elim
    | ok b m2 =>
      intro w2 e2 hm2 ok2 y ry
      rw [show fBin op fa fb env w.mem = op m2 a b by simp [fBin, R.bind, ea, eb]] at h
      exact hr a m1 b m2 ea eb w2 hm2 (A1.go e2 ok2) x y (rx.mono e2) ry (h.ext (e1.trans e2))
theorem opr_no {f : Value → Value → Sem Value} : OpR X f (fun _ _ _ _ => False) := fun _ _ _ _ _ _ _ _ _ _ _ _ h => h.elim
/-- the suiting rule for two values -/
def Suits (X : Cx) (G : Dx) (f : Value → Value → Sem Value) (op : Mem → D → D → R D) : Prop := ∀ m a b, op m a b = .st ∨ ∃ r : R2, OpR X f r ∧
  ∀ (w : Wd) (σ : L2.St) (env : Env) (x y : V) (Q : VK), w.mem = m → At X G w σ w.H env → Rep w a x → Rep w b y → Out G w σ (PD Q) (op m a b) → r x y w.H Q
theorem bin_pick {f : Value → Value → Sem Value} (S : Suits X G f op) {w : Wd} {σ : L2.St} {H : Hp} {env : Env} {Q : VK} (A : At X G w σ H env) (h : Out G w σ (PD Q) (fBin op fa fb env w.mem)) :
    ∃ r : R2, OpR X f r ∧ tOp r (asE X G fa) (asE X G fb) σ H Q := by
  cases ea : fa env w.mem with
  | ex c fs ds m => exact ⟨_, opr_no, bin_rd A h fun a m1 b m2 e => by rw [ea] at e; cases e⟩
  | st =>
    rw [show fBin op fa fb env w.mem = .st by simp [fBin, R.bind, ea]] at h
    exact h.elim
  | ok a m1 =>
    cases eb : fb env m1 with
    | ex c fs ds m => exact ⟨_, opr_no, bin_rd A h fun a' m1' b m2 e e2 => by rw [ea] at e; cases e; rw [eb] at e2; cases e2⟩
    | st =>
      rw [show fBin op fa fb env w.mem = .st by simp [fBin, R.bind, ea, eb]] at h
      exact h.elim
    | ok b m2 =>
      rcases S m2 a b with z | ⟨r, ho, hr⟩
      · rw [show fBin op fa fb env w.mem = .st by simp [fBin, R.bind, ea, eb, z]] at h
        exact h.elim
      · refine ⟨r, ho, bin_rd A h fun a' m1' b' m2' e e2 => ?_⟩
        rw [ea] at e
        cases e
        rw [eb] at e2
        cases e2
        exact fun w' hm A' x y rx ry o => hr w' σ env x y Q hm A' rx ry o
theorem de_bin {o : Operator} (S : Suits X G (binaryOp o) op) (ha : DE X G a fa) (hb : DE X G b fb) : DE X G (.BinOp a o b pos) (fBin op fa fb) := ⟨fun pins s σ H Q I q => by
  obtain ⟨w, env, A, h⟩ := q
  obtain ⟨r, ho, hr⟩ := bin_pick S A h
  exact (pe_op ho ha hb).run pins s σ H Q I hr⟩
theorem de_cmp {o : CmpOp} (S : Suits X G (compareOp o) op) (ha : DE X G a fa) (hb : DE X G b fb) (hm : behindInMarks o b = false) : DE X G (.Compare a [o] [b] pos) (fBin op fa fb) := ⟨fun pins s σ H Q I q => by
  obtain ⟨w, env, A, h⟩ := q
  obtain ⟨r, ho, hr⟩ := bin_pick S A h
  exact (pe_cmpR ho ha hb hm).run pins s σ H Q I hr⟩
/-- a value that is a truth value, as a test -/
@[reducible] def asB (r : R D) : R Bool := match r with
  | .ok (.bl b) m => .ok b m
  | .ok _ _ => .st
  | .ex c fs ds m => .ex c fs ds m
  | .st => .st
theorem Out.ofB {w : Wd} {σ : L2.St} {Q : Bool → Hp → Prop} {r : R D} (h : Out G w σ (PB Q) (asB r)) : Out G w σ (PD fun x H' => ∃ k, x = .bl k ∧ Q k H') r := by
  cases r with
  | ex c fs ds m => exact h
  | st => exact h.elim
  | ok d m =>
    cases d with
    | bl b =>
      intro w' e hm ok v rv
      cases rv
      exact ⟨b, rfl, h w' e hm ok⟩
    | _ => exact h.elim
theorem dt_cmp {o : CmpOp} (S : Suits X G (compareOp o) op) (ha : DE X G a fa) (hb : DE X G b fb) (hm : behindInMarks o b = false) : DT X G (.Compare a [o] [b] pos) (fun env m => asB (fBin op fa fb env m)) := ⟨fun pins s σ H Q I q => by
  obtain ⟨w, env, A, h⟩ := q
  obtain ⟨r, ho, hr⟩ := bin_pick S A h.ofB
  exact (pt_cmpR ho ha hb hm).run pins s σ H Q I hr⟩
end
end DL
/-! DL2: the operators by values. -/
namespace DL
open PySem PySem.Spec PyProof.Rows L2

/-! ### data as the library's equality reads it -/
mutual
def pyD : D → PyData
  | .non => .none
  | .bl b => .bool b
  | .int i => .int i
  | .str x => .str x
  | .lst xs => .list (pyDs xs)
  | .tup xs => .tuple (pyDs xs)
  | .fl ns => .list (ns.map PyData.int)
  | .kt xs => .tuple (pyDs xs)
  | .dk _ _ => .dict []
  | .dt _ _ => .dict []
  | .obj _ _ _ => .dict []
  | .cel _ => .dict []
def pyDs : List D → List PyData
  | [] => []
  | d :: ds => pyD d :: pyDs ds
end
def res (m : Mem) : D → D
  | .cel k => match m[k]? with
    | some (some (.lst xs)) => .lst xs
    | some (some (.dk ks ds)) => .dk ks ds
    | some (some (.dt ks ds)) => .dt ks ds
    | _ => .cel k
  | d => d
section
variable {w : Wd}
theorem dp_ints : ∀ (ns : List Int), DpAll w.K w.H (ns.map V.int) (ns.map PyData.int)
  | [] => .nil
  | n :: ns => .cons (.int n) (dp_ints ns)
mutual
theorem Rep.dp : ∀ {d : D} {v : V}, Rep w d v → PyData.canLay0 (pyD d) = true → Dp w.K w.H v (pyD d)
  | _, _, .non, _ => .non
  | _, _, .bl, _ => .bl _
  | _, _, .int, _ => .int _
  | _, _, .str, _ => .str _
  | _, _, .lst (xs := xs) n h r, c => by
    rw [pyD]
    exact .lst (SqL.of h) (RepL.dp r (by rw [pyD, PyData.canLay0] at c; exact c))
  | _, _, .tup (xs := xs) h r, c => by
    rw [pyD]
    exact .tup (SqT.of h) (RepL.dp r (by rw [pyD, PyData.canLay0] at c; exact c))
  | _, _, .kt (xs := xs) h r, c => by
    rw [pyD]
    exact .tup h (RepL.dp r (by rw [pyD, PyData.canLay0] at c; exact c))
  | _, _, .fl (ns := ns) h, _ => by
    rw [pyD]
    exact .lst h.sq (dp_ints ns)
  | _, _, .dk a b e d, c => by rw [pyD, PyData.canLay0] at c; cases c
  | _, _, .dt a b e d, c => by rw [pyD, PyData.canLay0] at c; cases c
  | _, _, .obj a b e d, c => by rw [pyD, PyData.canLay0] at c; cases c
  | _, _, .cel a, c => by rw [pyD, PyData.canLay0] at c; cases c
theorem RepL.dp : ∀ {ds : List D} {vs : List V}, RepL w ds vs → PyData.canLayAll0 (pyDs ds) = true → DpAll w.K w.H vs (pyDs ds)
  | _, _, .nil, _ => by rw [pyDs]; exact .nil
  | _, _, .cons a b, c => by
    rw [pyDs, PyData.canLayAll0] at c
    obtain ⟨c1, c2⟩ := Bool.and_eq_true_iff.mp c
    rw [pyDs]
    exact .cons (Rep.dp a c1) (RepL.dp b c2)
end
theorem Rep.dpr (ok : Wok w) {d : D} {v : V} (r : Rep w d v) (c : PyData.canLay0 (pyD (res w.mem d)) = true) : Dp w.K w.H v (pyD (res w.mem d)) := by
  cases d with
  | cel k =>
    have h1 : res w.mem (.cel k) = match w.mem[k]? with
      | some (some (.lst xs)) => .lst xs
      | some (some (.dk ks ds)) => .dk ks ds
      | some (some (.dt ks ds)) => .dt ks ds
      | _ => .cel k := rfl
    rw [h1] at c ⊢
    cases r with
    | cel hk =>
      split at c
      · rename_i xs e
        obtain ⟨vs, e2, q⟩ := ok.cell k _ e
        rw [pyD, PyData.canLay0] at c
        rw [pyD]
        exact .lst (SqL.of e2) (q.dp c)
      · rw [pyD, PyData.canLay0] at c; cases c
      · rw [pyD, PyData.canLay0] at c; cases c
      · rw [pyD, PyData.canLay0] at c; cases c
  | _ => exact r.dp c
end

/-! ### == and != of data -/
def eqD (m : Mem) (a b : D) : Option Bool := match a, b with
  | .str x, .str y => some (decide (x = y))
  | .int i, .int j => some (decide (i = j))
  | .bl i, .bl j => some (decide (i = j))
  | a, b => if SeqAt.shaped (pyD (res m a)) && SeqAt.shaped (pyD (res m b)) then some (PyData.eqv (pyD (res m a)) (pyD (res m b))) else none
def opEq (m : Mem) (a b : D) : R D := match eqD m a b with
  | some r => .ok (.bl r) m
  | none => .st
def opNe (m : Mem) (a b : D) : R D := match eqD m a b with
  | some r => .ok (.bl (!r)) m
  | none => .st
section
variable {X : Cx} {G : Dx}
theorem out_bl {w : Wd} {σ : L2.St} {H : Hp} {env : Env} {Q : VK} {b : Bool} (A : At X G w σ H env) (o : Out G w σ (PD Q) (.ok (.bl b) w.mem)) : Q (.bl b) w.H := o.now A rfl _ .bl
theorem out_int {w : Wd} {σ : L2.St} {H : Hp} {env : Env} {Q : VK} {i : Int} (A : At X G w σ H env) (o : Out G w σ (PD Q) (.ok (.int i) w.mem)) : Q (.int i) w.H := o.now A rfl _ .int
theorem out_str {w : Wd} {σ : L2.St} {H : Hp} {env : Env} {Q : VK} {x : Str} (A : At X G w σ H env) (o : Out G w σ (PD Q) (.ok (.str x) w.mem)) : Q (.str x) w.H := o.now A rfl _ .str
/-- the rule for == of data, told by cases -/
theorem eq_cases (hu : X.A.units + 64 < cLine) (neg : Bool) (m : Mem) (a b : D) : eqD m a b = none ∨ ∃ (k : Bool) (r : R2), eqD m a b = some k ∧ OpR X (compareOp (if neg then .NotEq else .Eq)) r ∧
    ∀ (w : Wd) (x y : V) (Q : VK), w.mem = m → w.K = X.K → Wok w → Rep w a x → Rep w b y → Q (.bl (if neg then !k else k)) w.H → r x y w.H Q := by
  have deep : ∀ a b, (SeqAt.shaped (pyD (res m a)) && SeqAt.shaped (pyD (res m b))) = true → ∃ (r : R2), OpR X (compareOp (if neg then .NotEq else .Eq)) r ∧
      ∀ (w : Wd) (x y : V) (Q : VK), w.mem = m → w.K = X.K → Wok w → Rep w a x → Rep w b y → Q (.bl (if neg then !PyData.eqv (pyD (res m a)) (pyD (res m b)) else PyData.eqv (pyD (res m a)) (pyD (res m b)))) w.H → r x y w.H Q := by
    intro a b h
    obtain ⟨h1, h2⟩ := Bool.and_eq_true_iff.mp h
    cases neg with
    | false =>
      refine ⟨_, op_eqD hu, fun w x y Q hm hK ok rx ry q => ?_⟩
      subst hm
      exact ⟨_, _, hK ▸ rx.dpr ok (SeqAt.canLay_of_shaped h1), hK ▸ ry.dpr ok (SeqAt.canLay_of_shaped h2), h1, h2, q⟩
    | true =>
      refine ⟨_, op_neD hu, fun w x y Q hm hK ok rx ry q => ?_⟩
      subst hm
      exact ⟨_, _, hK ▸ rx.dpr ok (SeqAt.canLay_of_shaped h1), hK ▸ ry.dpr ok (SeqAt.canLay_of_shaped h2), h1, h2, q⟩
  have flat : ∀ a b (u v : V) (k : Bool), (∀ w x, Rep w a x → x = u) → (∀ w y, Rep w b y → y = v) → scal u v = true → decide (u = v) = k → ∃ (r : R2), OpR X (compareOp (if neg then .NotEq else .Eq)) r ∧
      ∀ (w : Wd) (x y : V) (Q : VK), w.mem = m → w.K = X.K → Wok w → Rep w a x → Rep w b y → Q (.bl (if neg then !k else k)) w.H → r x y w.H Q := by
    intro a b u v k ha hb hs hk
    cases neg with
    | false =>
      refine ⟨_, op_eq, fun w x y Q hm hK ok rx ry q => ?_⟩
      rw [ha w x rx, hb w y ry]
      exact ⟨hs, by rw [hk]; exact q⟩
    | true =>
      refine ⟨_, op_ne, fun w x y Q hm hK ok rx ry q => ?_⟩
      rw [ha w x rx, hb w y ry]
      exact ⟨hs, by rw [hk]; exact q⟩
  have gen : ∀ a b, eqD m a b = (if SeqAt.shaped (pyD (res m a)) && SeqAt.shaped (pyD (res m b)) then some (PyData.eqv (pyD (res m a)) (pyD (res m b))) else none) → eqD m a b = none ∨ ∃ (k : Bool) (r : R2), eqD m a b = some k ∧ OpR X (compareOp (if neg then .NotEq else .Eq)) r ∧
      ∀ (w : Wd) (x y : V) (Q : VK), w.mem = m → w.K = X.K → Wok w → Rep w a x → Rep w b y → Q (.bl (if neg then !k else k)) w.H → r x y w.H Q := by
    intro a b e
    cases h : (SeqAt.shaped (pyD (res m a)) && SeqAt.shaped (pyD (res m b))) with
    | false =>
      refine .inl ?_
      rw [e, h]
      rfl
    | true =>
      obtain ⟨r, h1, h2⟩ := deep a b h
      refine .inr ⟨_, r, ?_, h1, h2⟩
      rw [e, h]
      rfl
  cases a with
  | str x =>
    cases b with
    | str y =>
      obtain ⟨r, h1, h2⟩ := flat (.str x) (.str y) (.str x) (.str y) (decide (x = y)) (fun _ _ r => by cases r; rfl) (fun _ _ r => by cases r; rfl) rfl (by rw [dec_str]; exact (Bool.beq_eq_decide_eq x y))
      exact .inr ⟨_, r, rfl, h1, h2⟩
    | _ => exact gen _ _ rfl
  | int x =>
    cases b with
    | int y =>
      obtain ⟨r, h1, h2⟩ := flat (.int x) (.int y) (.int x) (.int y) (decide (x = y)) (fun _ _ r => by cases r; rfl) (fun _ _ r => by cases r; rfl) rfl (by rw [dec_int]; exact (Bool.beq_eq_decide_eq x y))
      exact .inr ⟨_, r, rfl, h1, h2⟩
    | _ => exact gen _ _ rfl
  | bl x =>
    cases b with
    | bl y =>
      obtain ⟨r, h1, h2⟩ := flat (.bl x) (.bl y) (.bl x) (.bl y) (decide (x = y)) (fun _ _ r => by cases r; rfl) (fun _ _ r => by cases r; rfl) rfl (by rw [dec_bl]; exact (Bool.beq_eq_decide_eq x y))
      exact .inr ⟨_, r, rfl, h1, h2⟩
    | _ => exact gen _ _ rfl
  | _ => exact gen _ _ rfl
theorem suits_eq (hu : X.A.units + 64 < cLine) : Suits X G (compareOp .Eq) opEq := fun m a b => by
  rcases eq_cases hu false m a b with e | ⟨k, r, e, h1, h2⟩
  · exact .inl (by unfold opEq; rw [e])
  · refine .inr ⟨r, h1, fun w σ env x y Q hm A rx ry o => h2 w x y Q hm A.K A.rel.ok rx ry ?_⟩
    subst hm
    unfold opEq at o
    rw [e] at o
    exact out_bl A o
theorem suits_ne (hu : X.A.units + 64 < cLine) : Suits X G (compareOp .NotEq) opNe := fun m a b => by
  rcases eq_cases hu true m a b with e | ⟨k, r, e, h1, h2⟩
  · exact .inl (by unfold opNe; rw [e])
  · refine .inr ⟨r, h1, fun w σ env x y Q hm A rx ry o => h2 w x y Q hm A.K A.rel.ok rx ry ?_⟩
    subst hm
    unfold opNe at o
    rw [e] at o
    exact out_bl A o

/-! ### arithmetic -/
def opSub (m : Mem) : D → D → R D
  | .int i, .int j => .ok (.int (i - j)) m
  | _, _ => .st
instance (i j : Int) : Decidable (CMul i j) := by unfold CMul; exact inferInstance
instance (i j : Int) : Decidable (CDiv i j) := by unfold CDiv; exact inferInstance
instance (i j : Int) : Decidable (CPow i j) := by unfold CPow; exact inferInstance
def opDiv (m : Mem) : D → D → R D
  | .int i, .int j => if CDiv i j then .ok (.int (i / j)) m else .st
  | _, _ => .st
def opMod (m : Mem) : D → D → R D
  | .int i, .int j => if 0 < j then .ok (.int (i % j)) m else .st
  | _, _ => .st
def opPow (m : Mem) : D → D → R D
  | .int i, .int j => if CPow i j then .ok (.int (i ^ j.toNat)) m else .st
  | _, _ => .st
/-- a rule for two ints -/
theorem suits_int {f : Value → Value → Sem Value} {op : Mem → D → D → R D} {C : Int → Int → Prop} {g : Int → Int → Int} (ho : OpR X f (rI C fun i j => .int (g i j)))
    (h : ∀ m a b, op m a b = .st ∨ ∃ i j, a = .int i ∧ b = .int j ∧ C i j ∧ op m a b = .ok (.int (g i j)) m) : Suits X G f op := fun m a b => by
  rcases h m a b with e | ⟨i, j, rfl, rfl, hc, e⟩
  · exact .inl e
  · refine .inr ⟨_, ho, fun w σ env x y Q hm A rx ry o => ?_⟩
    subst hm
    cases rx
    cases ry
    rw [e] at o
    exact ⟨i, j, rfl, rfl, hc, out_int A o⟩
theorem suits_int0 {f : Value → Value → Sem Value} {op : Mem → D → D → R D} {g : Int → Int → Int} (ho : OpR X f (rI0 fun i j => .int (g i j)))
    (h : ∀ m a b, op m a b = .st ∨ ∃ i j, a = .int i ∧ b = .int j ∧ op m a b = .ok (.int (g i j)) m) : Suits X G f op := fun m a b => by
  rcases h m a b with e | ⟨i, j, rfl, rfl, e⟩
  · exact .inl e
  · refine .inr ⟨_, ho, fun w σ env x y Q hm A rx ry o => ?_⟩
    subst hm
    cases rx
    cases ry
    rw [e] at o
    exact ⟨i, j, rfl, rfl, out_int A o⟩
theorem suits_cmp {f : Value → Value → Sem Value} {op : Mem → D → D → R D} {g : Int → Int → Bool} (ho : OpR X f (rI0 fun i j => .bl (g i j)))
    (h : ∀ m a b, op m a b = .st ∨ ∃ i j, a = .int i ∧ b = .int j ∧ op m a b = .ok (.bl (g i j)) m) : Suits X G f op := fun m a b => by
  rcases h m a b with e | ⟨i, j, rfl, rfl, e⟩
  · exact .inl e
  · refine .inr ⟨_, ho, fun w σ env x y Q hm A rx ry o => ?_⟩
    subst hm
    cases rx
    cases ry
    rw [e] at o
    exact ⟨i, j, rfl, rfl, out_bl A o⟩
theorem suits_sub : Suits X G (binaryOp .Sub) opSub := suits_int0 op_sub fun m a b => by
  cases a with
  | int i => cases b with
    | int j => exact .inr ⟨i, j, rfl, rfl, rfl⟩
    | _ => exact .inl rfl
  | _ => exact .inl rfl
theorem suits_div : Suits X G (binaryOp .FloorDiv) opDiv := suits_int op_fdiv fun m a b => by
  cases a with
  | int i => cases b with
    | int j =>
      by_cases h : CDiv i j
      · exact .inr ⟨i, j, rfl, rfl, h, if_pos h⟩
      · exact .inl (if_neg h)
    | _ => exact .inl rfl
  | _ => exact .inl rfl
theorem suits_mod : Suits X G (binaryOp .Mod) opMod := suits_int op_mod fun m a b => by
  cases a with
  | int i => cases b with
    | int j =>
      by_cases h : 0 < j
      · exact .inr ⟨i, j, rfl, rfl, h, if_pos h⟩
      · exact .inl (if_neg h)
    | _ => exact .inl rfl
  | _ => exact .inl rfl
theorem suits_pow : Suits X G (binaryOp .Pow) opPow := suits_int op_pow fun m a b => by
  cases a with
  | int i => cases b with
    | int j =>
      by_cases h : CPow i j
      · exact .inr ⟨i, j, rfl, rfl, h, if_pos h⟩
      · exact .inl (if_neg h)
    | _ => exact .inl rfl
  | _ => exact .inl rfl
def opLt (m : Mem) : D → D → R D
  | .int i, .int j => .ok (.bl (decide (i < j))) m
  | _, _ => .st
def opLe (m : Mem) : D → D → R D
  | .int i, .int j => .ok (.bl (decide (i ≤ j))) m
  | _, _ => .st
def opGt (m : Mem) : D → D → R D
  | .int i, .int j => .ok (.bl (decide (j < i))) m
  | _, _ => .st
def opGe (m : Mem) : D → D → R D
  | .int i, .int j => .ok (.bl (decide (j ≤ i))) m
  | _, _ => .st
theorem suits_lt : Suits X G (compareOp .Lt) opLt := suits_cmp op_lt fun m a b => by
  cases a with
  | int i => cases b with
    | int j => exact .inr ⟨i, j, rfl, rfl, rfl⟩
    | _ => exact .inl rfl
  | _ => exact .inl rfl
theorem suits_le : Suits X G (compareOp .LtE) opLe := suits_cmp op_le fun m a b => by
  cases a with
  | int i => cases b with
    | int j => exact .inr ⟨i, j, rfl, rfl, rfl⟩
    | _ => exact .inl rfl
  | _ => exact .inl rfl
theorem suits_gt : Suits X G (compareOp .Gt) opGt := suits_cmp op_gt fun m a b => by
  cases a with
  | int i => cases b with
    | int j => exact .inr ⟨i, j, rfl, rfl, rfl⟩
    | _ => exact .inl rfl
  | _ => exact .inl rfl
theorem suits_ge : Suits X G (compareOp .GtE) opGe := suits_cmp op_ge fun m a b => by
  cases a with
  | int i => cases b with
    | int j => exact .inr ⟨i, j, rfl, rfl, rfl⟩
    | _ => exact .inl rfl
  | _ => exact .inl rfl

/-! ### + and * -/
def addL (m : Mem) (a b : D) : R D := match lstOf m a, lstOf m b with
  | some xs, some ys => if xs.length + ys.length ≤ sizeLine then .ok (.lst (xs ++ ys)) m else .st
  | _, _ => .st
def opAdd (m : Mem) (a b : D) : R D := match a, b with
  | .int i, .int j => .ok (.int (i + j)) m
  | .str x, .str y => if x.length + y.length ≤ sizeLine then .ok (.str (x ++ y)) m else .st
  | .tup xs, .tup ys => if xs ≠ [] ∧ xs.length + ys.length ≤ sizeLine then .ok (.tup (xs ++ ys)) m else .st
  | a, b => addL m a b
theorem RepL.ne_nil {w : Wd} {xs : List D} {vs : List V} (r : RepL w xs vs) : xs ≠ [] ↔ vs ≠ [] := by
  cases r with
  | nil => simp
  | cons _ _ => simp
theorem add_lst (m : Mem) (a b : D) : addL m a b = (.st : R D) ∨ ∃ r : R2, OpR X (binaryOp .Add) r ∧
    ∀ (w : Wd) (σ : L2.St) (env : Env) (x y : V) (Q : VK), w.mem = m → At X G w σ w.H env → Rep w a x → Rep w b y → Out G w σ (PD Q) (addL m a b) → r x y w.H Q := by
  cases ha : lstOf m a with
  | none => exact .inl (by unfold addL; rw [ha])
  | some xs =>
    cases hb : lstOf m b with
    | none => exact .inl (by unfold addL; rw [ha, hb])
    | some ys =>
      by_cases hz : xs.length + ys.length ≤ sizeLine
      · refine .inr ⟨_, op_cat, fun w σ env x y Q hm A rx ry o => ?_⟩
        subst hm
        obtain ⟨p, vs, rfl, e1, q1⟩ := rx.aslst A.rel.ok ha
        obtain ⟨p2, vs2, rfl, e2, q2⟩ := ry.aslst A.rel.ok hb
        refine ⟨p, p2, vs, vs2, rfl, rfl, e1, e2, by rw [← q1.len, ← q2.len]; exact hz, fun l hl => ?_⟩
        have e : addL w.mem a b = .ok (.lst (xs ++ ys)) w.mem := by
          unfold addL
          rw [ha, hb]
          exact if_pos hz
        rw [e] at o
        exact o (w.put l _) (Ext.put A.rel.ok hl) rfl (A.rel.ok.put hl) _ (put_lst A.rel.ok hl (q1.append q2))
      · exact .inl (by unfold addL; rw [ha, hb]; exact if_neg hz)
theorem suits_add : Suits X G (binaryOp .Add) opAdd := fun m a b => by
  have zI : ∀ i j, ∃ r : R2, OpR X (binaryOp .Add) r ∧ ∀ (w : Wd) (σ : L2.St) (env : Env) (x y : V) (Q : VK), w.mem = m → At X G w σ w.H env → Rep w (.int i) x → Rep w (.int j) y → Out G w σ (PD Q) (opAdd m (.int i) (.int j)) → r x y w.H Q := fun i j =>
    ⟨_, op_add, fun w σ env x y Q hm A rx ry o => by
      subst hm
      cases rx
      cases ry
      exact ⟨i, j, rfl, rfl, out_int A o⟩⟩
  have zS : ∀ i j, opAdd m (.str i) (.str j) = .st ∨ ∃ r : R2, OpR X (binaryOp .Add) r ∧ ∀ (w : Wd) (σ : L2.St) (env : Env) (x y : V) (Q : VK), w.mem = m → At X G w σ w.H env → Rep w (.str i) x → Rep w (.str j) y → Out G w σ (PD Q) (opAdd m (.str i) (.str j)) → r x y w.H Q := fun i j => by
    by_cases hz : i.length + j.length ≤ sizeLine
    · refine .inr ⟨_, op_add_str, fun w σ env x y Q hm A rx ry o => ?_⟩
      subst hm
      cases rx
      cases ry
      have e : opAdd w.mem (.str i) (.str j) = .ok (.str (i ++ j)) w.mem := if_pos hz
      rw [e] at o
      exact ⟨i, j, rfl, rfl, hz, out_str A o⟩
    · exact .inl (if_neg hz)
  have zT : ∀ i j, opAdd m (.tup i) (.tup j) = .st ∨ ∃ r : R2, OpR X (binaryOp .Add) r ∧ ∀ (w : Wd) (σ : L2.St) (env : Env) (x y : V) (Q : VK), w.mem = m → At X G w σ w.H env → Rep w (.tup i) x → Rep w (.tup j) y → Out G w σ (PD Q) (opAdd m (.tup i) (.tup j)) → r x y w.H Q := fun i j => by
    by_cases hz : i ≠ [] ∧ i.length + j.length ≤ sizeLine
    · refine .inr ⟨_, op_catT, fun w σ env x y Q hm A rx ry o => ?_⟩
      subst hm
      obtain ⟨p, vs, rfl, e1, q1⟩ := rx.astup
      obtain ⟨p2, vs2, rfl, e2, q2⟩ := ry.astup
      have e : opAdd w.mem (.tup i) (.tup j) = .ok (.tup (i ++ j)) w.mem := if_pos hz
      rw [e] at o
      have K := A.K
      refine ⟨p, p2, vs, vs2, rfl, rfl, SqT.of e1, SqT.of e2, q1.ne_nil.mp hz.1, by rw [← q1.len, ← q2.len]; exact hz.2, fun h => ?_, fun _ l hl => ?_⟩
      · subst h
        cases q2
        exact o w (Ext.refl w) rfl A.rel.ok _ (.tup e1 (by rw [List.append_nil]; exact q1))
      · exact o (w.put l _) (Ext.put A.rel.ok hl) rfl (A.rel.ok.put hl) _ (put_tup A.rel.ok hl (q1.append q2))
    · exact .inl (if_neg hz)
  have zL : ∀ a b, opAdd m a b = addL m a b → opAdd m a b = .st ∨ ∃ r : R2, OpR X (binaryOp .Add) r ∧ ∀ (w : Wd) (σ : L2.St) (env : Env) (x y : V) (Q : VK), w.mem = m → At X G w σ w.H env → Rep w a x → Rep w b y → Out G w σ (PD Q) (opAdd m a b) → r x y w.H Q := fun a b e => by
    rw [e]
    exact add_lst m a b
  cases a <;> cases b <;> first | exact .inr (zI _ _) | exact zS _ _ | exact zT _ _ | exact .inl rfl | exact zL _ _ rfl
def mulL (m : Mem) (a : D) (k : Int) : R D := match lstOf m a with
  | some xs => if -(2 ^ 63) ≤ k ∧ k < 2 ^ 63 ∧ xs.length * k.toNat ≤ sizeLine then .ok (.lst (List.replicate k.toNat xs).flatten) m else .st
  | none => .st
def opMul (m : Mem) (a b : D) : R D := match a, b with
  | .int i, .int j => if CMul i j then .ok (.int (i * j)) m else .st
  | a, .int k => mulL m a k
  | _, _ => .st
theorem RepL.rep {w : Wd} {xs : List D} {vs : List V} (r : RepL w xs vs) : ∀ k : Nat, RepL w (List.replicate k xs).flatten (List.replicate k vs).flatten
  | 0 => .nil
  | k + 1 => by
    rw [List.replicate_succ, List.replicate_succ, List.flatten_cons, List.flatten_cons]
    exact r.append (RepL.rep r k)
theorem mul_lst (m : Mem) (a : D) (k : Int) : mulL m a k = (.st : R D) ∨ ∃ r : R2, OpR X (binaryOp .Mult) r ∧
    ∀ (w : Wd) (σ : L2.St) (env : Env) (x y : V) (Q : VK), w.mem = m → At X G w σ w.H env → Rep w a x → Rep w (.int k) y → Out G w σ (PD Q) (mulL m a k) → r x y w.H Q := by
  cases ha : lstOf m a with
  | none => exact .inl (by unfold mulL; rw [ha])
  | some xs =>
    by_cases hz : -(2 ^ 63) ≤ k ∧ k < 2 ^ 63 ∧ xs.length * k.toNat ≤ sizeLine
    · refine .inr ⟨_, op_rep, fun w σ env x y Q hm A rx ry o => ?_⟩
      subst hm
      obtain ⟨p, vs, rfl, e1, q1⟩ := rx.aslst A.rel.ok ha
      cases ry
      refine ⟨p, k, vs, rfl, rfl, e1, hz.1, hz.2.1, by rw [← q1.len]; exact hz.2.2, fun l hl => ?_⟩
      have e : mulL w.mem a k = .ok (.lst (List.replicate k.toNat xs).flatten) w.mem := by
        unfold mulL
        rw [ha]
        exact if_pos hz
      rw [e] at o
      exact o (w.put l _) (Ext.put A.rel.ok hl) rfl (A.rel.ok.put hl) _ (put_lst A.rel.ok hl (q1.rep _))
    · exact .inl (by unfold mulL; rw [ha]; exact if_neg hz)
theorem suits_mul : Suits X G (binaryOp .Mult) opMul := fun m a b => by
  have zI : ∀ i j, opMul m (.int i) (.int j) = .st ∨ ∃ r : R2, OpR X (binaryOp .Mult) r ∧ ∀ (w : Wd) (σ : L2.St) (env : Env) (x y : V) (Q : VK), w.mem = m → At X G w σ w.H env → Rep w (.int i) x → Rep w (.int j) y → Out G w σ (PD Q) (opMul m (.int i) (.int j)) → r x y w.H Q := fun i j => by
    by_cases hz : CMul i j
    · refine .inr ⟨_, op_mul, fun w σ env x y Q hm A rx ry o => ?_⟩
      subst hm
      cases rx
      cases ry
      have e : opMul w.mem (.int i) (.int j) = .ok (.int (i * j)) w.mem := if_pos hz
      rw [e] at o
      exact ⟨i, j, rfl, rfl, hz, out_int A o⟩
    · exact .inl (if_neg hz)
  have zL : ∀ a k, opMul m a (.int k) = mulL m a k → opMul m a (.int k) = .st ∨ ∃ r : R2, OpR X (binaryOp .Mult) r ∧ ∀ (w : Wd) (σ : L2.St) (env : Env) (x y : V) (Q : VK), w.mem = m → At X G w σ w.H env → Rep w a x → Rep w (.int k) y → Out G w σ (PD Q) (opMul m a (.int k)) → r x y w.H Q := fun a k e => by
    rw [e]
    exact mul_lst m a k
  cases a <;> cases b <;> first | exact zI _ _ | exact .inl rfl | exact zL _ _ rfl
end
end DL
/-! DL3: tests, displays, fields, items, slices. -/
namespace DL
open PySem PySem.Spec PyProof.Rows L2

/-! ### tests -/
section
variable {X : Cx} {G : Dx} {pos : Pos} {a b c : Expr} {rest : List Expr} {ta tb : FT} {fa fb : FE}
@[reducible] def tfAnd (ta tb : FT) : FT := fun env m => (ta env m).bind fun k m1 => if k = true then tb env m1 else .ok false m1
@[reducible] def tfOr (ta tb : FT) : FT := fun env m => (ta env m).bind fun k m1 => if k = true then .ok true m1 else tb env m1
@[reducible] def tfNot (ta : FT) : FT := fun env m => (ta env m).bind fun k m1 => .ok (!k) m1
/-- a test, as a chain of and | or -/
structure DW (X : Cx) (G : Dx) (e : Expr) (t : FT) : Prop where
  pw : PW X e (asT X G t)
theorem dw_and1 (ha : DT X G a ta) : DW X G (.BoolOp .And [a] pos) ta := ⟨pw_and1 ha⟩
theorem dw_or1 (ha : DT X G a ta) : DW X G (.BoolOp .Or [a] pos) ta := ⟨pw_or1 ha⟩
theorem rd_and {w : Wd} {σ : L2.St} {H : Hp} {env : Env} {Q : Bool → Hp → Prop} (A : At X G w σ H env) (h : Out G w σ (PB Q) (tfAnd ta tb env w.mem)) : tAnd (asT X G ta) (asT X G tb) σ H Q := by
  refine ⟨w, env, A, (Out.seq h).imp fun k w1 e1 ok1 h1 => ?_⟩
  cases k with
  | true => exact ⟨w1, env, A.go e1 ok1, h1⟩
  | false => exact h1.here ok1
theorem rd_or {w : Wd} {σ : L2.St} {H : Hp} {env : Env} {Q : Bool → Hp → Prop} (A : At X G w σ H env) (h : Out G w σ (PB Q) (tfOr ta tb env w.mem)) : tOr (asT X G ta) (asT X G tb) σ H Q := by
  refine ⟨w, env, A, (Out.seq h).imp fun k w1 e1 ok1 h1 => ?_⟩
  cases k with
  | true => exact h1.here ok1
  | false => exact ⟨w1, env, A.go e1 ok1, h1⟩
theorem dw_and (ha : DT X G a ta) (hb : DW X G (.BoolOp .And (b :: rest) pos) tb) : DW X G (.BoolOp .And (a :: b :: rest) pos) (tfAnd ta tb) := ⟨⟨fun wh pins s σ H Q I h => by
  obtain ⟨w, env, A, h⟩ := h
  exact (pw_and ha hb.pw).run wh pins s σ H Q I (rd_and A h)⟩⟩
theorem dw_or (ha : DT X G a ta) (hb : DW X G (.BoolOp .Or (b :: rest) pos) tb) : DW X G (.BoolOp .Or (a :: b :: rest) pos) (tfOr ta tb) := ⟨⟨fun wh pins s σ H Q I h => by
  obtain ⟨w, env, A, h⟩ := h
  exact (pw_or ha hb.pw).run wh pins s σ H Q I (rd_or A h)⟩⟩
theorem dt_w (h : DW X G a ta) : DT X G a ta := h.pw.pt
theorem dt_not (ha : DT X G a ta) : DT X G (.UnaryOp .Not a pos) (tfNot ta) := ⟨fun pins s σ H Q I h => by
  obtain ⟨w, env, A, h⟩ := h
  refine (pt_not ha).run pins s σ H Q I ?_
  exact ⟨w, env, A, (Out.seq h).imp fun k w1 e1 ok1 h1 => h1.here ok1⟩⟩
/-- the truth of a value -/
def truD (m : Mem) : D → Option Bool
  | .non => some false
  | .bl b => some b
  | .int i => some (i != 0)
  | .str x => if x.length ≤ sizeLine then some ((x.length : Int) != 0) else none
  | .tup xs => some (!xs.isEmpty)
  | .kt xs => some (!xs.isEmpty)
  | .dk ks ds => some (!(ks.zip ds).isEmpty)
  | d => (rlstOf m d).map fun xs => !xs.isEmpty
@[reducible] def asTr (r : R D) : R Bool := r.bind fun d m => match truD m d with
  | some b => .ok b m
  | none => .st
theorem RepL.empty {w : Wd} {xs : List D} {vs : List V} (r : RepL w xs vs) : xs.isEmpty = vs.isEmpty := by
  cases r with
  | nil => rfl
  | cons _ _ => rfl
theorem Rep.tru {w : Wd} (ok : Wok w) {d : D} {v : V} {b : Bool} (r : Rep w d v) (h : truD w.mem d = some b) : TruV w.K v w.H b := by
  have lists : ∀ {d : D}, Rep w d v → (rlstOf w.mem d).map (fun xs => !xs.isEmpty) = some b → TruV w.K v w.H b := by
    intro d r h
    cases hl : rlstOf w.mem d with
    | none => rw [hl] at h; cases h
    | some xs =>
      rw [hl] at h
      cases h
      obtain ⟨p, vs, rfl, e, q⟩ := r.asrlst ok hl
      exact .inl ⟨vs, e, by show (!xs.isEmpty) = _; rw [q.empty]⟩
  cases r with
  | non => cases h; rfl
  | bl => cases h; rfl
  | int => cases h; rfl
  | @str x =>
    have h1 : (if x.length ≤ sizeLine then some ((x.length : Int) != 0) else none) = some b := h
    by_cases hz : x.length ≤ sizeLine
    · rw [if_pos hz] at h1
      cases h1
      exact ⟨hz, rfl⟩
    · rw [if_neg hz] at h1
      cases h1
  | tup e q =>
    cases h
    exact .inr (.inl ⟨_, SqT.of e, by rw [q.empty]⟩)
  | kt e q =>
    cases h
    exact .inr (.inl ⟨_, e, by rw [q.empty]⟩)
  | @dk p ks ds vs n e l q =>
    cases h
    refine .inr (.inr ⟨_, e, ?_⟩)
    cases q with
    | nil => cases ks <;> rfl
    | cons _ _ => cases ks <;> rfl
  | dt n e l q => cases h
  | obj n e l q => cases h
  | lst n e q => exact lists (.lst n e q) h
  | fl e => exact lists (.fl e) h
  | cel e => exact lists (.cel e) h
theorem dt_tru (ha : DE X G a fa) (he : ∀ whole, isTrue a X.env whole = (do let v ← whole; standAt a.pos; holding [v] (truthy v)) := by intro _; rfl) : DT X G a (fun env m => asTr (fa env m)) := ⟨fun pins s σ H Q I h => by
  obtain ⟨w, env, A, h⟩ := h
  refine (pt_truth ha he).run pins s σ H Q I ?_
  refine ⟨w, env, A, (Out.seq h).imp fun d w1 e1 ok1 h1 v rv => ?_⟩
  cases ht : truD w1.mem d with
  | none =>
    rw [ht] at h1
    exact h1.elim
  | some k =>
    rw [ht] at h1
    exact ⟨k, (A.go e1 ok1).K ▸ rv.tru ok1 ht, h1.here ok1⟩⟩
/-! ### .. as values -/
@[reducible] def fAnd (fa fb : FE) : FE := fun env m => (fa env m).bind fun d m1 => match d with
  | .bl true => fb env m1
  | .bl false => .ok (.bl false) m1
  | _ => .st
@[reducible] def fOr (fa fb : FE) : FE := fun env m => (fa env m).bind fun d m1 => match d with
  | .bl false => fb env m1
  | .bl true => .ok (.bl true) m1
  | _ => .st
@[reducible] def fNot (ta : FT) : FE := fun env m => (ta env m).bind fun k m1 => .ok (.bl (!k)) m1
theorem de_one {op : BoolOp} (h : DE X G a fa) : DE X G (.BoolOp op [a] pos) fa := pe_one h
theorem de_and (ha : DE X G a fa) (hb : DE X G (.BoolOp .And (b :: rest) pos) fb) : DE X G (.BoolOp .And (a :: b :: rest) pos) (fAnd fa fb) := ⟨fun pins s σ H Q I h => by
  obtain ⟨w, env, A, h⟩ := h
  refine (pe_and ha hb).run pins s σ H Q I ?_
  refine ⟨w, env, A, (Out.seq h).imp fun d w1 e1 ok1 h1 v rv => ?_⟩
  cases d with
  | bl k =>
    cases rv
    cases k with
    | true => exact ⟨true, rfl, w1, env, A.go e1 ok1, h1⟩
    | false => exact ⟨false, rfl, h1.here ok1 _ .bl⟩
  | _ => exact h1.elim⟩
theorem de_or (ha : DE X G a fa) (hb : DE X G (.BoolOp .Or (b :: rest) pos) fb) : DE X G (.BoolOp .Or (a :: b :: rest) pos) (fOr fa fb) := ⟨fun pins s σ H Q I h => by
  obtain ⟨w, env, A, h⟩ := h
  refine (pe_or ha hb).run pins s σ H Q I ?_
  refine ⟨w, env, A, (Out.seq h).imp fun d w1 e1 ok1 h1 v rv => ?_⟩
  cases d with
  | bl k =>
    cases rv
    cases k with
    | true => exact ⟨true, rfl, h1.here ok1 _ .bl⟩
    | false => exact ⟨false, rfl, w1, env, A.go e1 ok1, h1⟩
  | _ => exact h1.elim⟩
@[reducible] def fNotV (fa : FE) : FE := fun env m => (fa env m).bind fun d m1 => match d with
  | .bl k => .ok (.bl (!k)) m1
  | _ => .st
theorem de_not (ha : DE X G a fa) : DE X G (.UnaryOp .Not a pos) (fNotV fa) := ⟨fun pins s σ H Q I h => by
  obtain ⟨w, env, A, h⟩ := h
  refine (pe_not ha).run pins s σ H Q I ?_
  refine ⟨w, env, A, (Out.seq h).imp fun d w1 e1 ok1 h1 v rv => ?_⟩
  cases d with
  | bl k =>
    cases rv
    exact ⟨k, rfl, h1.here ok1 _ .bl⟩
  | _ => exact h1.elim⟩
@[reducible] def fIf (t : FT) (fa fb : FE) : FE := fun env m => (t env m).bind fun k m1 => if k = true then fa env m1 else fb env m1
theorem de_if (hc : DT X G c ta) (ha : DE X G a fa) (hb : DE X G b fb) : DE X G (.IfExp c a b pos) (fIf ta fa fb) := ⟨fun pins s σ H Q I h => by
  obtain ⟨w, env, A, h⟩ := h
  refine (pe_ifExp hc ha hb).run pins s σ H Q I ?_
  refine ⟨w, env, A, (Out.seq h).imp fun k w1 e1 ok1 h1 => ?_⟩
  cases k with
  | true => exact ⟨w1, env, A.go e1 ok1, h1⟩
  | false => exact ⟨w1, env, A.go e1 ok1, h1⟩⟩
@[reducible] def fNeg (fa : FE) : FE := fun env m => (fa env m).bind fun d m1 => match d with
  | .int i => .ok (.int (-i)) m1
  | _ => .st
theorem de_neg (ha : DE X G a fa) : DE X G (.UnaryOp .USub a pos) (fNeg fa) := ⟨fun pins s σ H Q I h => by
  obtain ⟨w, env, A, h⟩ := h
  refine (pe_un un_neg ha).run pins s σ H Q I ?_
  refine ⟨w, env, A, (Out.seq h).imp fun d w1 e1 ok1 h1 v rv => ?_⟩
  cases d with
  | int i =>
    cases rv
    exact ⟨i, rfl, h1.here ok1 _ .int⟩
  | _ => exact h1.elim⟩

/-! ### chains of two comparisons -/
@[reducible] def fChain (op op' : Mem → D → D → R D) (fa fb fc : FE) : FE := fun env m => (fa env m).bind fun a m1 => (fb env m1).bind fun b m2 => (op m2 a b).bind fun z m3 => match z with
  | .bl true => (fc env m3).bind fun c m4 => op' m4 b c
  | .bl false => .ok (.bl false) m3
  | _ => .st
def cmpI (p : Int → Int → Bool) (m : Mem) : D → D → R D
  | .int i, .int j => .ok (.bl (p i j)) m
  | _, _ => .st
theorem rd_chain {p p' : Int → Int → Bool} {fc : FE} {w : Wd} {σ : L2.St} {H : Hp} {env : Env} {Q : VK} (A : At X G w σ H env) (h : Out G w σ (PD Q) (fChain (cmpI p) (cmpI p') fa fb fc env w.mem)) :
    tChain (rI0 fun i j => .bl (p i j)) (rI0 fun i j => .bl (p' i j)) (asE X G fa) (asE X G fb) (asE X G fc) σ H Q := by
  refine ⟨w, env, A, (Out.seq h).imp fun d w1 e1 ok1 h1 v rv => ?_⟩
  have A1 := A.go e1 ok1
  refine ⟨w1, env, A1, (Out.seq h1).imp fun d2 w2 e2 ok2 h2 u ru => ?_⟩
  have A2 := A1.go e2 ok2
  cases d with
  | int i => cases d2 with
    | int j =>
      cases rv
      cases ru
      refine ⟨i, j, rfl, rfl, p i j, rfl, ?_⟩
      have h3 := Out.seq h2
      have h4 := h3.here ok2
      cases hp : p i j with
      | false =>
        rw [hp] at h4
        exact h4.here ok2 _ .bl
      | true =>
        rw [hp] at h4
        refine ⟨w2, env, A2, (Out.seq h4).imp fun d3 w3 e3 ok3 h5 z rz => ?_⟩
        cases d3 with
        | int k =>
          cases rz
          exact ⟨j, k, rfl, rfl, h5.here ok3 _ .bl⟩
        | _ => exact h5.elim
    | _ => exact h2.elim
  | _ => exact h2.elim
theorem de_chain {o o' : CmpOp} {p p' : Int → Int → Bool} {fc : FE} (ho : OpR X (compareOp o) (rI0 fun i j => .bl (p i j))) (ho' : OpR X (compareOp o') (rI0 fun i j => .bl (p' i j))) (ha : DE X G a fa) (hb : DE X G b fb) (hc : DE X G c fc)
    (hm : lastMarks [o, o'] [b, c] = false := by with_unfolding_all rfl) : DE X G (.Compare a [o, o'] [b, c] pos) (fChain (cmpI p) (cmpI p') fa fb fc) := ⟨fun pins s σ H Q I h => by
  obtain ⟨w, env, A, h⟩ := h
  exact (pe_chain ho ho' ha hb hc hm).run pins s σ H Q I (rd_chain A h)⟩
theorem dt_chain {o o' : CmpOp} {p p' : Int → Int → Bool} {fc : FE} (ho : OpR X (compareOp o) (rI0 fun i j => .bl (p i j))) (ho' : OpR X (compareOp o') (rI0 fun i j => .bl (p' i j))) (ha : DE X G a fa) (hb : DE X G b fb) (hc : DE X G c fc)
    (hm : lastMarks [o, o'] [b, c] = false := by with_unfolding_all rfl) : DT X G (.Compare a [o, o'] [b, c] pos) (fun env m => asB (fChain (cmpI p) (cmpI p') fa fb fc env m)) := ⟨fun pins s σ H Q I h => by
  obtain ⟨w, env, A, h⟩ := h
  exact (pt_chain ho ho' ha hb hc hm).run pins s σ H Q I (rd_chain A h.ofB)⟩
end

/-! ### argument lists, displays -/
section
variable {X : Cx} {G : Dx} {pos : Pos} {e : Expr} {es : List Expr} {fe : FE} {fs : FA}
@[reducible] def aNil : FA := fun _ m => .ok [] m
@[reducible] def aCons (fe : FE) (fs : FA) : FA := fun env m => (fe env m).bind fun d m1 => (fs env m1).bind fun ds m2 => .ok (d :: ds) m2
theorem da_nil : DA X G [] aNil := ⟨fun p pins s σ H Q I h => by
  obtain ⟨w, env, A, h⟩ := h
  refine pa_nil.run p pins s σ H Q I ?_
  have z := h.now A rfl [] .nil
  rw [A.H] at z
  exact z⟩
theorem da_cons (ha : DE X G e fe) (hr : DA X G es fs) (hs : starEach (e :: es) X.env = (false, eval e X.env) :: starEach es X.env := by rfl) : DA X G (e :: es) (aCons fe fs) := ⟨fun p pins s σ H Q I h => by
  obtain ⟨w, env, A, h⟩ := h
  refine (pa_cons ha hr hs).run p pins s σ H Q I ?_
  refine ⟨w, env, A, (Out.seq h).imp fun d w1 e1 ok1 h1 v rv => ?_⟩
  refine ⟨w1, env, A.go e1 ok1, (Out.seq h1).imp fun ds w2 e2 ok2 h2 vs rvs => ?_⟩
  exact h2.here ok2 _ (.cons (rv.mono e2) rvs)⟩
@[reducible] def fTup (fs : FA) : FE := fun env m => (fs env m).bind fun ds m1 => if ds.length ≤ sizeLine then .ok (.tup ds) m1 else .st
@[reducible] def fLst (fs : FA) : FE := fun env m => (fs env m).bind fun ds m1 => if ds.length ≤ sizeLine then .ok (.lst ds) m1 else .st
theorem de_tup {x1 : Nat} (h : DA X G es fs) : DE X G (.Tuple es x1 pos) (fTup fs) := ⟨fun pins s σ H Q I q => by
  obtain ⟨w, env, A, q⟩ := q
  refine (pe_tup h).run pins s σ H Q I ?_
  refine ⟨w, env, A, (Out.seq q).imp fun ds w1 e1 ok1 h1 vs rv => ?_⟩
  by_cases hz : ds.length ≤ sizeLine
  · rw [if_pos hz] at h1
    exact ⟨by rw [← rv.len]; exact hz, fun p hp => h1 (w1.put p _) (Ext.put ok1 hp) rfl (ok1.put hp) _ (put_tup ok1 hp rv)⟩
  · rw [if_neg hz] at h1
    exact h1.elim⟩
theorem de_lst (h : DA X G es fs) : DE X G (.List es pos) (fLst fs) := ⟨fun pins s σ H Q I q => by
  obtain ⟨w, env, A, q⟩ := q
  refine (pe_lst h).run pins s σ H Q I ?_
  refine ⟨w, env, A, (Out.seq q).imp fun ds w1 e1 ok1 h1 vs rv => ?_⟩
  by_cases hz : ds.length ≤ sizeLine
  · rw [if_pos hz] at h1
    exact ⟨by rw [← rv.len]; exact hz, fun p hp => h1 (w1.put p _) (Ext.put ok1 hp) rfl (ok1.put hp) _ (put_lst ok1 hp rv)⟩
  · rw [if_neg hz] at h1
    exact h1.elim⟩
/-- a new cell -/
def Wd.cellNew (w : Wd) (p : Addr) (o : HO) (c : C) : Wd := { w with H := upd w.H p o, ad := fun j => if j = w.mem.length then p else w.ad j, mem := w.mem ++ [some c] }
theorem Ext.cellNew {w : Wd} {p : Addr} {o : HO} {c : C} (ok : Wok w) (h : w.H p = none) : Ext w (w.cellNew p o c) where
  K := rfl
  cl := rfl
  len := by show w.mem.length ≤ (w.mem ++ [some c]).length; simp
  adr := fun k hk => if_neg (Nat.ne_of_lt hk)
  keep := fun a u e n => by
    have hap := ne_of_none e h
    refine ⟨by show upd w.H p o a = _; rw [upd_ne hap]; exact e, fun z => ?_⟩
    rcases z with ⟨k, c', hk, ha⟩ | z
    · have hk : (w.mem ++ [some c])[k]? = some (some c') := hk
      have ha : (if k = w.mem.length then p else w.ad k) = a := ha
      by_cases hkl : k = w.mem.length
      · rw [if_pos hkl] at ha
        exact hap ha.symm
      · rw [if_neg hkl] at ha
        have hlt : k < w.mem.length := by
          have := (List.getElem?_eq_some_iff.mp hk).1
          simp at this
          omega
        rw [List.getElem?_append_left hlt] at hk
        exact n (.inl ⟨k, c', hk, ha⟩)
    · exact n (.inr z)
  tups := fun a xs e => by show upd w.H p o a = _; rw [upd_ne (ne_of_none e h)]; exact e
  frzs := fun a u x e => by show upd w.H p o a = _; rw [upd_ne (ne_of_none e h)]; exact e
  back := fun a e => by
    have e1 : upd w.H p o a = none := e
    by_cases z : a = p
    · rw [z, upd_same] at e1
      cases e1
    · rw [upd_ne z] at e1
      exact e1
  rs := fun _ h => h
  rsk := fun a r => by
    obtain ⟨u, e⟩ := ok.rso a r
    show upd w.H p o a = _
    rw [upd_ne (ne_of_none e h)]
theorem CellOk.ext {w w' : Wd} {k : Nat} {c : C} (h : CellOk w k c) (e : Ext w w') (ha : w'.ad k = w.ad k) (hH : w'.H (w.ad k) = w.H (w.ad k)) : CellOk w' k c := by
  cases c with
  | lst xs =>
    obtain ⟨vs, h1, r⟩ := h
    exact ⟨vs, by rw [ha, hH]; exact h1, r.mono e⟩
  | dk ks ds =>
    obtain ⟨vs, h1, l, r⟩ := h
    exact ⟨vs, by rw [ha, hH]; exact h1, l, r.mono e⟩
  | dt ks ds =>
    obtain ⟨vs, h1, l, r⟩ := h
    exact ⟨vs, by rw [ha, hH]; exact h1, l, r.mono e⟩
  | ins c fs ds =>
    obtain ⟨dx, vs, h1, l, r⟩ := h
    exact ⟨dx, vs, by rw [ha, hH, e.cl]; exact h1, l, r.mono e⟩
theorem Wok.cellNew {w : Wd} {p : Addr} {o : HO} {c : C} (ok : Wok w) (h : w.H p = none) (hc : CellOk (w.cellNew p o c) w.mem.length c) : Wok (w.cellNew p o c) := by
  have e := Ext.cellNew (o := o) (c := c) ok h
  have old : ∀ {k : Nat} {c' : C}, (w.mem ++ [some c])[k]? = some (some c') → k ≠ w.mem.length → w.mem[k]? = some (some c') ∧ k < w.mem.length := fun {k c'} hk hne => by
    have hlt : k < w.mem.length := by
      have := (List.getElem?_eq_some_iff.mp hk).1
      simp at this
      omega
    rw [List.getElem?_append_left hlt] at hk
    exact ⟨hk, hlt⟩
  have adn : ∀ {k : Nat}, k ≠ w.mem.length → (w.cellNew p o c).ad k = w.ad k := fun {k} hk => if_neg hk
  have ads : (w.cellNew p o c).ad w.mem.length = p := if_pos rfl
  have nep : ∀ {k : Nat} {c' : C}, w.mem[k]? = some (some c') → w.ad k ≠ p := fun {k c'} hk z => by
    obtain ⟨u, q⟩ := ok.live_some hk
    rw [z, h] at q
    cases q
  refine ⟨fun k c' hk => ?_, fun j k c1 c2 h1 h2 q => ?_, fun k c' hk => ?_, fun a r => ?_⟩
  · have hk : (w.mem ++ [some c])[k]? = some (some c') := hk
    by_cases hkl : k = w.mem.length
    · subst hkl
      have : c' = c := by simpa using hk.symm
      subst this
      exact hc
    · obtain ⟨h1, h2⟩ := old hk hkl
      refine (ok.cell k c' h1).ext e (adn hkl) ?_
      show upd w.H p o (w.ad k) = _
      rw [upd_ne (nep h1)]
  · have h1 : (w.mem ++ [some c])[j]? = some (some c1) := h1
    have h2 : (w.mem ++ [some c])[k]? = some (some c2) := h2
    by_cases hj : j = w.mem.length
    · by_cases hk : k = w.mem.length
      · rw [hj, hk]
      · obtain ⟨g1, g2⟩ := old h2 hk
        rw [hj, ads, adn hk] at q
        exact absurd q.symm (nep g1)
    · obtain ⟨f1, f2⟩ := old h1 hj
      by_cases hk : k = w.mem.length
      · rw [hk, ads, adn hj] at q
        exact absurd q (nep f1)
      · obtain ⟨g1, g2⟩ := old h2 hk
        rw [adn hj, adn hk] at q
        exact ok.inj j k c1 c2 f1 g1 q
  · have hk : (w.mem ++ [some c])[k]? = some (some c') := hk
    by_cases hkl : k = w.mem.length
    · rw [hkl, ads]
      intro z
      obtain ⟨u, q⟩ := ok.rso p z
      rw [h] at q
      cases q
    · obtain ⟨h1, _⟩ := old hk hkl
      rw [adn hkl]
      exact ok.nrs k c' h1
  · obtain ⟨u, q⟩ := ok.rso a r
    exact ⟨u, by rw [e.rsk a r]; exact q⟩
theorem rep_cellNew {w : Wd} {p : Addr} {o : HO} {c : C} : Rep (w.cellNew p o c) (.cel w.mem.length) (.ref p) := by
  have e : (w.cellNew p o c).ad w.mem.length = p := if_pos rfl
  have z : Rep (w.cellNew p o c) (.cel w.mem.length) (.ref ((w.cellNew p o c).ad w.mem.length)) := .cel (by show w.mem.length < (w.mem ++ [some c]).length; simp)
  rw [e] at z
  exact z
@[reducible] def mkCell (c : C) (m : Mem) : R D := .ok (.cel m.length) (m ++ [some c])
/-- a new list that will be changed -/
theorem out_cellL {w : Wd} {σ : L2.St} {Q : VK} {xs : List D} {vs : List V} {p : Addr} (ok : Wok w) (h : Out G w σ (PD Q) (mkCell (.lst xs) w.mem)) (r : RepL w xs vs) (hp : w.H p = none) : Q (.ref p) (upd w.H p (.lst vs)) := by
  have e := Ext.cellNew (o := .lst vs) (c := .lst xs) ok hp
  refine h (w.cellNew p (.lst vs) (.lst xs)) e rfl (ok.cellNew hp ⟨vs, ?_, r.mono e⟩) _ rep_cellNew
  show upd w.H p (.lst vs) (if w.mem.length = w.mem.length then p else _) = _
  rw [if_pos rfl, upd_same]
@[reducible] def fLstC (fs : FA) : FE := fun env m => (fs env m).bind fun ds m1 => if ds.length ≤ sizeLine then mkCell (.lst ds) m1 else .st
theorem de_lstC (h : DA X G es fs) : DE X G (.List es pos) (fLstC fs) := ⟨fun pins s σ H Q I q => by
  obtain ⟨w, env, A, q⟩ := q
  refine (pe_lst h).run pins s σ H Q I ?_
  refine ⟨w, env, A, (Out.seq q).imp fun ds w1 e1 ok1 h1 vs rv => ?_⟩
  by_cases hz : ds.length ≤ sizeLine
  · rw [if_pos hz] at h1
    exact ⟨by rw [← rv.len]; exact hz, fun p hp => out_cellL ok1 h1 rv hp⟩
  · rw [if_neg hz] at h1
    exact h1.elim⟩
end
end DL
/-! DL4: fields, items, slices, in, is, isinstance. -/
namespace DL
open PySem PySem.Spec PyProof.Rows L2

/-! ### own classes -/
def btys : List String := ["NoneType", "bool", "int", "str", "list", "tuple", "dict"]
/-- what must hold of a class whose instances are data -/
def clsB (K : PySem.W.Frag) (C : Addr) : Bool :=
  (PySem.W.plainGet K C Str.empty && (PySem.W.hasDictIn K C && (PySem.W.plainOver K C && He.eqO (PySem.W.findIn K (.ref C) "__setattr__") (some (some (.builtin "object.__setattr__")))))) &&
  (He.eqO (PySem.W.findIn K (.ref C) "__class__") (some (some (.builtin "object.__class__"))) &&
  (He.eqO (PySem.W.specialIn K (.builtin "object.__class__") "__get__") (some (some (.builtin "getset_descriptor.__get__"))) &&
  (decide (PySem.W.takesIn K (.builtin "object.__class__") = some true) &&
  (decide (PySem.W.mroIn K C (.type "object") = some true) &&
  (btys.all (fun t => decide (PySem.W.kitOne K (.ref C) (.type t) = some false)) &&
  btys.all (fun t => decide (PySem.W.kitOne K (.type t) (.ref C) = some false)))))))
structure ClsF (K : PySem.W.Frag) (C : Addr) : Prop where
  cl : Cls K C
  ha : PySem.W.findIn K (.ref C) "__class__" = some (some (.builtin "object.__class__"))
  hn : PySem.W.specialIn K (.builtin "object.__class__") "__get__" = some (some (.builtin "getset_descriptor.__get__"))
  tk : PySem.W.takesIn K (.builtin "object.__class__") = some true
  mr : PySem.W.mroIn K C (.type "object") = some true
  to : ∀ t ∈ btys, PySem.W.kitOne K (.ref C) (.type t) = some false
  of : ∀ t ∈ btys, PySem.W.kitOne K (.type t) (.ref C) = some false
theorem clsB_ok {K : PySem.W.Frag} {C : Addr} (h : clsB K C = true) : ClsF K C := by
  unfold clsB at h
  simp only [Bool.and_eq_true] at h
  obtain ⟨⟨a, b, c, d⟩, e, f, g, i, j, k⟩ := h
  exact ⟨⟨a, b, c, He.eqO_ok d⟩, He.eqO_ok e, He.eqO_ok f, of_decide_eq_true g, of_decide_eq_true i, fun t ht => of_decide_eq_true (List.all_eq_true.mp j t ht), fun t ht => of_decide_eq_true (List.all_eq_true.mp k t ht)⟩
/-- the own classes of the text -/
structure Tab (K : PySem.W.Frag) (cl : Str → Addr) (cs : List Str) : Prop where
  cls : ∀ c ∈ cs, ClsF K (cl c)
  pair : ∀ c ∈ cs, ∀ d ∈ cs, PySem.W.kitOne K (.ref (cl c)) (.ref (cl d)) = some (decide (c = d))
def tabB (K : PySem.W.Frag) (cl : Str → Addr) (cs : List Str) : Bool := cs.all (fun c => clsB K (cl c)) && cs.all fun c => cs.all fun d => decide (PySem.W.kitOne K (.ref (cl c)) (.ref (cl d)) = some (decide (c = d)))
theorem tabB_ok {K : PySem.W.Frag} {cl : Str → Addr} {cs : List Str} (h : tabB K cl cs = true) : Tab K cl cs := by
  obtain ⟨h1, h2⟩ := Bool.and_eq_true_iff.mp h
  exact ⟨fun c hc => clsB_ok (List.all_eq_true.mp h1 c hc), fun c hc d hd => of_decide_eq_true (List.all_eq_true.mp (List.all_eq_true.mp h2 c hc) d hd)⟩

/-! ### fields -/
section
variable {X : Cx} {G : Dx} {pos : Pos} {e : Expr} {fe : FE} {f : Str}
/-- an instance: its class, fields, values -/
def objOf (m : Mem) : D → Option (Str × List Str × List D)
  | .obj c fs ds => some (c, fs, ds)
  | .cel k => match m[k]? with
    | some (some (.ins c fs ds)) => some (c, fs, ds)
    | _ => none
  | _ => none
theorem Rep.asobj {w : Wd} (ok : Wok w) {d : D} {v : V} {c : Str} {fs : List Str} {ds : List D} (r : Rep w d v) (h : objOf w.mem d = some (c, fs, ds)) : ∃ p dx vs, v = .ref p ∧ w.H p = some (.ins (w.cl c) dx (fs.zip vs)) ∧ fs.length = ds.length ∧ RepL w ds vs := by
  cases r with
  | obj n e l q =>
    cases h
    exact ⟨_, _, _, rfl, e, l, q⟩
  | @cel k hk =>
    have h1 : (match w.mem[k]? with
      | some (some (.ins c fs ds)) => some (c, fs, ds)
      | _ => none) = some (c, fs, ds) := h
    split at h1
    · rename_i e
      cases h1
      obtain ⟨dx, vs, q⟩ := ok.cell k _ e
      exact ⟨_, dx, vs, rfl, q⟩
    · cases h1
  | _ => cases h
def fldD (cs fsn : List Str) (f : Str) (m : Mem) (d : D) : Option D := match objOf m d with
  | some (c, fs, ds) => if c ∈ cs ∧ f ∈ fsn then (fs.zip ds).lookup f else none
  | none => none
@[reducible] def fFld (cs fsn : List Str) (f : Str) (fe : FE) : FE := fun env m => (fe env m).bind fun d m1 => match fldD cs fsn f m1 d with
  | some z => .ok z m1
  | none => .st
theorem zip_lookup {w : Wd} {f : Str} {z : D} : ∀ {fs : List Str} {ds : List D} {vs : List V}, RepL w ds vs → (fs.zip ds).lookup f = some z → ∃ v, (fs.zip vs).lookup f = some v ∧ Rep w z v
  | [], _, _, _, h => by simp at h
  | _ :: _, [], _, _, h => by simp at h
  | g :: fs, d :: ds, _, .cons (v := v) (vs := vs) r t, h => by
    rw [List.zip_cons_cons, List.lookup_cons] at h
    rw [List.zip_cons_cons, List.lookup_cons]
    cases hb : f == g with
    | true =>
      rw [hb] at h
      cases h
      exact ⟨v, rfl, r⟩
    | false =>
      rw [hb] at h
      exact zip_lookup t h
theorem de_fld {cs fsn : List Str} (T : Tab X.K G.cl cs) (na : ∀ c ∈ cs, ∀ f ∈ fsn, NoAttr X.K (G.cl c) f) (he : DE X G e fe) (hb : attributeBase e f X.env (eval e X.env) = eval e X.env := by rfl) : DE X G (.Attribute e f pos) (fFld cs fsn f fe) := ⟨fun pins s σ H Q I q => by
  obtain ⟨w, env, A, q⟩ := q
  refine (pe_fld he hb).run pins s σ H Q I ?_
  refine ⟨w, env, A, (Out.seq q).imp fun d w1 e1 ok1 h1 v rv => ?_⟩
  have A1 := A.go e1 ok1
  cases hf : fldD cs fsn f w1.mem d with
  | none =>
    rw [hf] at h1
    exact h1.elim
  | some z =>
    rw [hf] at h1
    unfold fldD at hf
    cases ho : objOf w1.mem d with
    | none => rw [ho] at hf; cases hf
    | some cfd =>
      obtain ⟨c, fs, ds⟩ := cfd
      rw [ho] at hf
      dsimp only at hf
      obtain ⟨p, dx, vs, rfl, eH, l, r⟩ := rv.asobj ok1 ho
      by_cases hc : c ∈ cs ∧ f ∈ fsn
      · rw [if_pos hc] at hf
        obtain ⟨v, h2, r2⟩ := zip_lookup r hf
        exact ⟨p, G.cl c, dx, fs.zip vs, v, rfl, by rw [← A1.cl]; exact eH, (T.cls c hc.1).cl, na c hc.1 f hc.2, h2, h1.here ok1 _ r2⟩
      · rw [if_neg hc] at hf
        cases hf⟩

/-! ### items -/
def keyD : D → Option Key
  | .int i => some (.inl i)
  | .str x => some (.inr x)
  | _ => none
def keysD : List D → Option (List Key)
  | [] => some []
  | d :: ds => match keyD d, keysD ds with
    | some k, some ks => some (k :: ks)
    | _, _ => none
theorem keyD_ok {w : Wd} {d : D} {v : V} {k : Key} (r : Rep w d v) (h : keyD d = some k) : v = kV k := by
  cases r with
  | int => cases h; rfl
  | str => cases h; rfl
  | _ => cases h
theorem keysD_ok {w : Wd} : ∀ {ds : List D} {vs : List V} {ks : List Key}, RepL w ds vs → keysD ds = some ks → vs = ks.map kV
  | _, _, _, .nil, h => by cases h; rfl
  | d :: ds, _, ks, .cons r t, h => by
    have h1 : (match keyD d, keysD ds with
      | some k, some ks => some (k :: ks)
      | _, _ => none) = some ks := h
    cases hk : keyD d with
    | none => rw [hk] at h1; cases h1
    | some k =>
      cases hks : keysD ds with
      | none => rw [hk, hks] at h1; cases h1
      | some k2 =>
        rw [hk, hks] at h1
        cases h1
        rw [keyD_ok r hk, keysD_ok t hks]
        rfl
def zfind {κ : Type} [DecidableEq κ] (ks : List κ) (ds : List D) (k : κ) : Option D := ((ks.zip ds).find? fun p => decide (p.1 = k)).map (·.2)
theorem zfind_val {κ : Type} [DecidableEq κ] {w : Wd} (k : κ) : ∀ {ks : List κ} {ds : List D} {vs : List V}, RepL w ds vs → (zfind ks ds k = none ∧ valV (ks.zip vs) k = none) ∨ ∃ d v, zfind ks ds k = some d ∧ valV (ks.zip vs) k = some v ∧ Rep w d v
  | [], _, _, _ => .inl ⟨rfl, rfl⟩
  | _ :: _, _, _, .nil => .inl ⟨rfl, rfl⟩
  | j :: ks, _, _, .cons (d := d) (v := v) (ds := ds) (vs := vs) r t => by
    by_cases h : j = k
    · refine .inr ⟨d, v, ?_, ?_, r⟩
      · simp [zfind, h]
      · simp [valV, h]
    · have e1 : zfind (j :: ks) (d :: ds) k = zfind ks ds k := by simp [zfind, h]
      have e2 : valV ((j :: ks).zip (v :: vs)) k = valV (ks.zip vs) k := by simp [valV, h]
      rw [e1, e2]
      exact zfind_val k t
/-- the value at a key, if there is one -/
def dicGet (c : Dc) (k : D) : Option (Option D) := match c with
  | .k ks ds => (keyD k).map fun k => zfind ks ds k
  | .t ks ds => match k with
    | .tup xs => (keysD xs).map fun k => zfind ks ds k
    | _ => none
end
/-! ### two operands, by any rule -/
section
variable {X : Cx} {G : Dx} {pos : Pos} {a b e : Expr} {fa fb : FE} {op : Mem → D → D → R D}
/-- what a rule must give at two values -/
def Gives (X : Cx) (G : Dx) (op : Mem → D → D → R D) (m : Mem) (a b : D) (r : R2) : Prop :=
  ∀ (w : Wd) (σ : L2.St) (env : Env) (x y : V) (Q : VK), w.mem = m → At X G w σ w.H env → Rep w a x → Rep w b y → Out G w σ (PD Q) (op m a b) → r x y w.H Q
theorem pick_any {P : R2 → Prop} (h0 : ∃ r, P r) (S : ∀ m a b, op m a b = .st ∨ ∃ r, P r ∧ Gives X G op m a b r) {w : Wd} {σ : L2.St} {H : Hp} {env : Env} {Q : VK} (A : At X G w σ H env) (h : Out G w σ (PD Q) (fBin op fa fb env w.mem)) :
    ∃ r, P r ∧ tOp r (asE X G fa) (asE X G fb) σ H Q := by
  obtain ⟨r0, p0⟩ := h0
  cases ea : fa env w.mem with
  | ex c fs ds m => exact ⟨r0, p0, bin_rd A h fun a m1 b m2 e => by rw [ea] at e; cases e⟩
  | st =>
    rw [show fBin op fa fb env w.mem = .st by simp [fBin, R.bind, ea]] at h
    exact h.elim
  | ok a m1 =>
    cases eb : fb env m1 with
    | ex c fs ds m => exact ⟨r0, p0, bin_rd A h fun a' m1' b m2 e e2 => by rw [ea] at e; cases e; rw [eb] at e2; cases e2⟩
    | st =>
      rw [show fBin op fa fb env w.mem = .st by simp [fBin, R.bind, ea, eb]] at h
      exact h.elim
    | ok b m2 =>
      rcases S m2 a b with z | ⟨r, hp, hr⟩
      · rw [show fBin op fa fb env w.mem = .st by simp [fBin, R.bind, ea, eb, z]] at h
        exact h.elim
      · refine ⟨r, hp, bin_rd A h fun a' m1' b' m2' e e2 => ?_⟩
        rw [ea] at e
        cases e
        rw [eb] at e2
        cases e2
        exact fun w' hm A' x y rx ry o => hr w' σ env x y Q hm A' rx ry o
theorem de_any (h0 : ∃ r, PE X e (tOp r (asE X G fa) (asE X G fb))) (S : ∀ m a b, op m a b = .st ∨ ∃ r, PE X e (tOp r (asE X G fa) (asE X G fb)) ∧ Gives X G op m a b r) : DE X G e (fBin op fa fb) := ⟨fun pins s σ H Q I q => by
  obtain ⟨w, env, A, h⟩ := q
  obtain ⟨r, hp, hr⟩ := pick_any h0 S A h
  exact hp.run pins s σ H Q I hr⟩
theorem dt_any (h0 : ∃ r, PT X e (tTest (tOp r (asE X G fa) (asE X G fb)))) (S : ∀ m a b, op m a b = .st ∨ ∃ r, PT X e (tTest (tOp r (asE X G fa) (asE X G fb))) ∧ Gives X G op m a b r) : DT X G e (fun env m => asB (fBin op fa fb env m)) := ⟨fun pins s σ H Q I q => by
  obtain ⟨w, env, A, h⟩ := q
  obtain ⟨r, hp, hr⟩ := pick_any h0 S A h.ofB
  exact hp.run pins s σ H Q I hr⟩

/-! ### items -/
def opIx (m : Mem) (a b : D) : R D := match a with
  | .str z => match b with
    | .int i => if z.length ≤ sizeLine then match atI z.cps.toList i with
      | some c => .ok (.str ⟨#[c]⟩) m
      | none => .st
      else .st
    | _ => .st
  | a => match seqOf m a with
    | some xs => match b with
      | .int i => match atI xs i with
        | some d => .ok d m
        | none => .st
      | _ => .st
    | none => match dicOf m a with
      | some c => match dicGet c b with
        | some (some d) => .ok d m
        | _ => .st
      | none => .st
theorem atI_rep {w : Wd} {xs : List D} {vs : List V} {i : Int} {d : D} (r : RepL w xs vs) (h : atI xs i = some d) : ∃ v, atI vs i = some v ∧ Rep w d v := by
  unfold atI at h ⊢
  rw [← r.len]
  cases hn : ixN xs.length i with
  | none => rw [hn] at h; cases h
  | some j =>
    rw [hn] at h
    exact r.get h
/-- d[k], by values -/
def rDG : R2 := fun x y H Q => ∃ a v, x = .ref a ∧ DGet H a y (some v) ∧ Q v H
theorem dget_of {w : Wd} {p : Addr} {c : Dc} {k : D} {y : V} {o : Option D} (dc : DcAt w p c) (rk : Rep w k y) (h : dicGet c k = some o) : ∃ ov, DGet w.H p y ov ∧ ((o = none ∧ ov = none) ∨ ∃ d v, o = some d ∧ ov = some v ∧ Rep w d v) := by
  cases c with
  | k ks ds =>
    obtain ⟨vs, e, l, r⟩ := dc
    have h1 : (keyD k).map (fun k => zfind ks ds k) = some o := h
    cases hk : keyD k with
    | none => rw [hk] at h1; cases h1
    | some j =>
      rw [hk] at h1
      cases h1
      rw [keyD_ok rk hk]
      refine ⟨_, DGet.k e, ?_⟩
      rcases zfind_val j r with ⟨h1, h2⟩ | ⟨d, v, h1, h2, h3⟩
      · exact .inl ⟨h1, h2⟩
      · exact .inr ⟨d, v, h1, h2, h3⟩
  | t ks ds =>
    obtain ⟨vs, e, l, r⟩ := dc
    cases rk with
    | tup et rt =>
      rename_i p' xs us
      have h1 : (keysD xs).map (fun k => zfind ks ds k) = some o := h
      cases hk : keysD xs with
      | none => rw [hk] at h1; cases h1
      | some j =>
        rw [hk] at h1
        cases h1
        rw [keysD_ok rt hk] at et
        refine ⟨_, DGet.t e et, ?_⟩
        rcases zfind_val j r with ⟨h1, h2⟩ | ⟨d, v, h1, h2, h3⟩
        · exact .inl ⟨h1, h2⟩
        · exact .inr ⟨d, v, h1, h2, h3⟩
    | _ => cases h
theorem de_ix (hu : X.A.units + 1 < cLine) (ha : DE X G a fa) (hb : DE X G b fb) (hs : PlainIx b := by intro _ _; rfl) : DE X G (.Subscript a b pos) (fBin opIx fa fb) := by
  have seqs : ∀ m a' b', opIx m a' b' = (match seqOf m a' with
      | some xs => match b' with
        | .int i => match atI xs i with
          | some d => .ok d m
          | none => .st
        | _ => .st
      | none => match dicOf m a' with
        | some c => match dicGet c b' with
          | some (some d) => .ok d m
          | _ => .st
        | none => (.st : R D)) → opIx m a' b' = .st ∨ ∃ r, PE X (.Subscript a b pos) (tOp r (asE X G fa) (asE X G fb)) ∧ Gives X G opIx m a' b' r := by
    intro m a' b' e
    cases hq : seqOf m a' with
    | some xs =>
      rw [hq] at e
      cases b' with
      | int i =>
        cases hi : atI xs i with
        | none => exact .inl (by rw [e]; dsimp only; rw [hi])
        | some d =>
          refine .inr ⟨_, pe_ix (ix_list.or ix_tup) ha hb hs, fun w σ env x y Q hm A rx ry o => ?_⟩
          subst hm
          rw [e] at o
          dsimp only at o
          rw [hi] at o
          obtain ⟨p, vs, rfl, hp, r⟩ := rx.asseq A.rel.ok hq
          cases ry
          obtain ⟨v, hv, rv⟩ := atI_rep r hi
          have q := o.now A rfl v rv
          rcases hp with hp | hp
          · exact .inl ⟨p, vs, i, v, rfl, rfl, A.K ▸ hp, hv, q⟩
          · exact .inr ⟨p, vs, i, v, rfl, rfl, A.K ▸ hp, hv, q⟩
      | _ => exact .inl e
    | none =>
      rw [hq] at e
      cases hd : dicOf m a' with
      | none => exact .inl (by rw [e]; dsimp only; rw [hd])
      | some c =>
        cases hg : dicGet c b' with
        | none => exact .inl (by rw [e]; dsimp only; rw [hd]; dsimp only; rw [hg])
        | some o2 =>
          cases o2 with
          | none => exact .inl (by rw [e]; dsimp only; rw [hd]; dsimp only; rw [hg])
          | some d =>
            refine .inr ⟨rDG, pe_dget hu ha hb hs, fun w σ env x y Q hm A rx ry o => ?_⟩
            subst hm
            have e2 : opIx w.mem a' b' = .ok d w.mem := by
              rw [e]; dsimp only; rw [hd]; dsimp only; rw [hg]
            rw [e2] at o
            obtain ⟨p, rfl, dc⟩ := rx.asdic A.rel.ok hd
            obtain ⟨ov, g, z⟩ := dget_of dc ry hg
            rcases z with ⟨z, _⟩ | ⟨d2, v, z1, z2, rv⟩
            · cases z
            · cases z1
              subst z2
              exact ⟨p, v, rfl, g, o.now A rfl v rv⟩
  refine de_any ⟨_, pe_ix ix_list ha hb hs⟩ fun m a' b' => ?_
  cases a' with
  | str z =>
    cases b' with
    | int i =>
      by_cases hz : z.length ≤ sizeLine
      · cases hi : atI z.cps.toList i with
        | none => exact .inl (by show (if z.length ≤ sizeLine then _ else _) = _; rw [if_pos hz, hi])
        | some c =>
          refine .inr ⟨_, pe_ix ix_str ha hb hs, fun w σ env x y Q hm A rx ry o => ?_⟩
          subst hm
          cases rx
          cases ry
          have e2 : opIx w.mem (.str z) (.int i) = .ok (.str ⟨#[c]⟩) w.mem := by
            show (if z.length ≤ sizeLine then _ else _) = _
            rw [if_pos hz, hi]
          rw [e2] at o
          exact ⟨z, i, c, rfl, rfl, hz, hi, out_str A o⟩
      · exact .inl (if_neg hz)
    | _ => exact .inl rfl
  | _ => exact seqs _ _ _ rfl

/-! ### in, not in -/
def toV : D → V
  | .non => .non
  | .bl b => .bl b
  | .int i => .int i
  | .str x => .str x
  | _ => .ref 0
theorem Rep.toV {w : Wd} {d : D} {v : V} (r : Rep w d v) (h : flatV (toV d) = true) : v = DL.toV d := by
  cases r with
  | non => rfl
  | bl => rfl
  | int => rfl
  | str => rfl
  | _ => cases h
theorem RepL.toV {w : Wd} : ∀ {ds : List D} {vs : List V}, RepL w ds vs → (ds.map toV).all flatV = true → vs = ds.map DL.toV
  | _, _, .nil, _ => rfl
  | _, _, .cons r t, h => by
    rw [List.map_cons, List.all_cons] at h
    obtain ⟨h1, h2⟩ := Bool.and_eq_true_iff.mp h
    rw [List.map_cons, r.toV h1, RepL.toV t h2]
theorem lst_seq {m : Mem} {b : D} {xs : List D} (hs : seqOf m b = some xs) (h : (lstOf m b).isSome = true) : lstOf m b = some xs := by
  cases b with
  | lst ys => exact hs
  | cel k => exact hs
  | _ => cases h
/-- whether it is in: a sign in a text, a value in a list or tuple, a key in a dict -/
def inD (m : Mem) (a b : D) : Option Bool := match b with
  | .str z => match a with
    | .str x => match x.cps.toList with
      | [c] => some (decide (c ∈ z.cps.toList))
      | _ => none
    | _ => none
  | b => match seqOf m b with
    | some xs =>
      if flatV (toV a) = true ∧ (xs.map toV).all flatV = true then some (inV (toV a) (xs.map toV))
      else if SeqAt.shaped (pyD (res m a)) = true ∧ SeqAt.shaped (.list (pyDs xs)) = true ∧ (lstOf m b).isSome = true then some ((pyDs xs).any fun z => PyData.eqv z (pyD (res m a)))
      else none
    | none => match dicOf m b with
      | some c => (dicGet c a).map fun o => o.isSome
      | none => none
def opIn (m : Mem) (a b : D) : R D := match inD m a b with
  | some k => .ok (.bl k) m
  | none => .st
def opNin (m : Mem) (a b : D) : R D := match inD m a b with
  | some k => .ok (.bl (!k)) m
  | none => .st
def rDI (neg : Bool) : R2 := fun y x H Q => ∃ a o, x = .ref a ∧ DGet H a y o ∧ Q (.bl (if neg then !o.isSome else o.isSome)) H
theorem one_cps {x : Str} {c : Nat} (h : x.cps.toList = [c]) : x = ⟨#[c]⟩ := by
  obtain ⟨a⟩ := x
  have : a = #[c] := by
    apply Array.ext'
    simpa using h
  rw [this]
/-- the kinds of rules -/
inductive InK (X : Cx) (neg : Bool) (r : R2) : Prop
  | op (h : OpR X (compareOp (if neg then .NotIn else .In)) r)
  | dic (h : r = rDI neg)
theorem in_cases (hu : X.A.units + 65 < cLine) (neg : Bool) (m : Mem) (a b : D) : inD m a b = none ∨ ∃ (k : Bool) (r : R2), inD m a b = some k ∧ InK X neg r ∧
    ∀ (w : Wd) (x y : V) (Q : VK), w.mem = m → w.K = X.K → Wok w → Rep w a x → Rep w b y → Q (.bl (if neg then !k else k)) w.H → r x y w.H Q := by
  have gen : ∀ a b, inD m a b = (match seqOf m b with
    | some xs =>
      if flatV (toV a) = true ∧ (xs.map toV).all flatV = true then some (inV (toV a) (xs.map toV))
      else if SeqAt.shaped (pyD (res m a)) = true ∧ SeqAt.shaped (.list (pyDs xs)) = true ∧ (lstOf m b).isSome = true then some ((pyDs xs).any fun z => PyData.eqv z (pyD (res m a)))
      else none
    | none => match dicOf m b with
      | some c => (dicGet c a).map fun o => o.isSome
      | none => none) → inD m a b = none ∨ ∃ (k : Bool) (r : R2), inD m a b = some k ∧ InK X neg r ∧
    ∀ (w : Wd) (x y : V) (Q : VK), w.mem = m → w.K = X.K → Wok w → Rep w a x → Rep w b y → Q (.bl (if neg then !k else k)) w.H → r x y w.H Q := by
    intro a b e
    cases hs : seqOf m b with
    | some xs =>
      rw [hs] at e
      dsimp only at e
      by_cases hf : flatV (toV a) = true ∧ (xs.map toV).all flatV = true
      · rw [if_pos hf] at e
        refine .inr ⟨_, rIn X.K neg, e, .op ?_, fun w x y Q hm hK ok rx ry q => ?_⟩
        · cases neg with
          | true => exact op_notIn_seq
          | false => exact op_in_seq
        · subst hm
          obtain ⟨p, vs, rfl, hp, r⟩ := ry.asseq ok hs
          have ex := rx.toV hf.1
          have ev := r.toV hf.2
          subst ex ev
          exact ⟨p, _, rfl, hK ▸ hp, hf.1, hf.2, q⟩
      · rw [if_neg hf] at e
        by_cases hd : SeqAt.shaped (pyD (res m a)) = true ∧ SeqAt.shaped (.list (pyDs xs)) = true ∧ (lstOf m b).isSome = true
        · rw [if_pos hd] at e
          have fin : ∀ (w : Wd) (x y : V), w.mem = m → w.K = X.K → Wok w → Rep w a x → Rep w b y → Dp X.K w.H x (pyD (res m a)) ∧ Dp X.K w.H y (.list (pyDs xs)) := fun w x y hm hK ok rx ry => by
            subst hm
            refine ⟨hK ▸ rx.dpr ok (SeqAt.canLay_of_shaped hd.1), ?_⟩
            obtain ⟨p, vs, rfl, e1, r⟩ := ry.aslst ok (lst_seq hs hd.2.2)
            have c := SeqAt.canLay_of_shaped hd.2.1
            rw [PyData.canLay0] at c
            exact .lst (SqL.of e1) (hK ▸ r.dp c)
          cases neg with
          | true => exact .inr ⟨_, rNotInD X.K, e, .op (op_notInD hu), fun w x y Q hm hK ok rx ry q => ⟨_, _, (fin w x y hm hK ok rx ry).1, (fin w x y hm hK ok rx ry).2, hd.1, hd.2.1, q⟩⟩
          | false => exact .inr ⟨_, rInD X.K, e, .op (op_inD hu), fun w x y Q hm hK ok rx ry q => ⟨_, _, (fin w x y hm hK ok rx ry).1, (fin w x y hm hK ok rx ry).2, hd.1, hd.2.1, q⟩⟩
        · rw [if_neg hd] at e
          exact .inl e
    | none =>
      rw [hs] at e
      cases hd : dicOf m b with
      | none => exact .inl (by rw [e]; dsimp only; rw [hd])
      | some c =>
        cases hg : dicGet c a with
        | none => exact .inl (by rw [e]; dsimp only; rw [hd]; dsimp only; rw [hg] <;> rfl)
        | some o =>
          refine .inr ⟨o.isSome, rDI neg, by rw [e]; dsimp only; rw [hd]; dsimp only; rw [hg] <;> rfl, .dic rfl, fun w x y Q hm hK ok rx ry q => ?_⟩
          subst hm
          obtain ⟨p, rfl, dc⟩ := ry.asdic ok hd
          obtain ⟨ov, g, z⟩ := dget_of dc rx hg
          have eo : ov.isSome = o.isSome := by
            rcases z with ⟨h1, h2⟩ | ⟨d, v, h1, h2, _⟩
            · rw [h1, h2]; rfl
            · rw [h1, h2]; rfl
          exact ⟨p, ov, rfl, g, by rw [eo]; exact q⟩
  cases b with
  | str z =>
    cases a with
    | str x =>
      have e : inD m (.str x) (.str z) = (match x.cps.toList with
        | [c] => some (decide (c ∈ z.cps.toList))
        | _ => none) := rfl
      rw [e]
      split
      · rename_i c hc
        have ex := one_cps hc
        cases neg with
        | true =>
          refine .inr ⟨_, _, rfl, .op op_notIn_sign, fun w x y Q hm hK ok rx ry q => ?_⟩
          cases rx
          cases ry
          exact ⟨c, z, by rw [ex], rfl, q⟩
        | false =>
          refine .inr ⟨_, _, rfl, .op op_in_sign, fun w x y Q hm hK ok rx ry q => ?_⟩
          cases rx
          cases ry
          exact ⟨c, z, by rw [ex], rfl, q⟩
      · exact .inl rfl
    | _ => exact .inl rfl
  | _ => exact gen _ _ rfl
theorem Gives.in_ {neg : Bool} {m : Mem} {a b : D} {k : Bool} {r : R2} {op : Mem → D → D → R D} (e : op m a b = .ok (.bl (if neg then !k else k)) m)
    (h : ∀ (w : Wd) (x y : V) (Q : VK), w.mem = m → w.K = X.K → Wok w → Rep w a x → Rep w b y → Q (.bl (if neg then !k else k)) w.H → r x y w.H Q) : Gives X G op m a b r := fun w σ env x y Q hm A rx ry o => by
  refine h w x y Q hm A.K A.rel.ok rx ry ?_
  rw [e, ← hm] at o
  exact out_bl A o
theorem de_in (hu : X.A.units + 65 < cLine) (ha : DE X G a fa) (hb : DE X G b fb) (hm : behindInMarks .In b = false := by rfl) : DE X G (.Compare a [.In] [b] pos) (fBin opIn fa fb) := by
  refine de_any ⟨_, pe_cmpR op_in_seq ha hb hm⟩ fun m a' b' => ?_
  rcases in_cases (X := X) hu false m a' b' with e | ⟨k, r, e, hk, h⟩
  · exact .inl (by unfold opIn; rw [e])
  · refine .inr ⟨r, ?_, Gives.in_ (neg := false) (k := k) (by unfold opIn; rw [e]; rfl) h⟩
    cases hk with
    | op ho => exact pe_cmpR ho ha hb hm
    | dic hr => subst hr; exact pe_cmp (pc_din (Nat.lt_of_le_of_lt (Nat.add_le_add_left (by decide : 1 ≤ 65) _) hu) ha hb) hm
theorem dt_in (hu : X.A.units + 65 < cLine) (ha : DE X G a fa) (hb : DE X G b fb) (hm : behindInMarks .In b = false := by rfl) : DT X G (.Compare a [.In] [b] pos) (fun env m => asB (fBin opIn fa fb env m)) := by
  refine dt_any ⟨_, pt_cmpR op_in_seq ha hb hm⟩ fun m a' b' => ?_
  rcases in_cases (X := X) hu false m a' b' with e | ⟨k, r, e, hk, h⟩
  · exact .inl (by unfold opIn; rw [e])
  · refine .inr ⟨r, ?_, Gives.in_ (neg := false) (k := k) (by unfold opIn; rw [e]; rfl) h⟩
    cases hk with
    | op ho => exact pt_cmpR ho ha hb hm
    | dic hr => subst hr; exact pt_cmp (pc_din (Nat.lt_of_le_of_lt (Nat.add_le_add_left (by decide : 1 ≤ 65) _) hu) ha hb) hm
theorem de_nin (hu : X.A.units + 65 < cLine) (ha : DE X G a fa) (hb : DE X G b fb) (hm : behindInMarks .NotIn b = false := by rfl) : DE X G (.Compare a [.NotIn] [b] pos) (fBin opNin fa fb) := by
  refine de_any ⟨_, pe_cmpR op_notIn_seq ha hb hm⟩ fun m a' b' => ?_
  rcases in_cases (X := X) hu true m a' b' with e | ⟨k, r, e, hk, h⟩
  · exact .inl (by unfold opNin; rw [e])
  · refine .inr ⟨r, ?_, Gives.in_ (neg := true) (k := k) (by unfold opNin; rw [e]; rfl) h⟩
    cases hk with
    | op ho => exact pe_cmpR ho ha hb hm
    | dic hr => subst hr; exact pe_cmp (pc_dnotin (Nat.lt_of_le_of_lt (Nat.add_le_add_left (by decide : 1 ≤ 65) _) hu) ha hb) hm
theorem dt_nin (hu : X.A.units + 65 < cLine) (ha : DE X G a fa) (hb : DE X G b fb) (hm : behindInMarks .NotIn b = false := by rfl) : DT X G (.Compare a [.NotIn] [b] pos) (fun env m => asB (fBin opNin fa fb env m)) := by
  refine dt_any ⟨_, pt_cmpR op_notIn_seq ha hb hm⟩ fun m a' b' => ?_
  rcases in_cases (X := X) hu true m a' b' with e | ⟨k, r, e, hk, h⟩
  · exact .inl (by unfold opNin; rw [e])
  · refine .inr ⟨r, ?_, Gives.in_ (neg := true) (k := k) (by unfold opNin; rw [e]; rfl) h⟩
    cases hk with
    | op ho => exact pt_cmpR ho ha hb hm
    | dic hr => subst hr; exact pt_cmp (pc_dnotin (Nat.lt_of_le_of_lt (Nat.add_le_add_left (by decide : 1 ≤ 65) _) hu) ha hb) hm

/-! ### is None, is True -/
def isD (a b : D) : Option Bool := match b with
  | .non => match a with
    | .non => some true
    | _ => some false
  | .bl j => match a with
    | .bl i => some (decide (i = j))
    | _ => none
  | _ => none
def opIs (m : Mem) (a b : D) : R D := match isD a b with
  | some k => .ok (.bl k) m
  | none => .st
def opIsn (m : Mem) (a b : D) : R D := match isD a b with
  | some k => .ok (.bl (!k)) m
  | none => .st
theorem is_cases (neg : Bool) (m : Mem) (a b : D) : isD a b = none ∨ ∃ (k : Bool) (r : R2), isD a b = some k ∧ OpR X (compareOp (if neg then .IsNot else .Is)) r ∧
    ∀ (w : Wd) (x y : V) (Q : VK), Rep w a x → Rep w b y → Q (.bl (if neg then !k else k)) w.H → r x y w.H Q := by
  cases b with
  | non =>
    have hn : ∃ k, isD a .non = some k ∧ ∀ (w : Wd) (x : V), Rep w a x → decide (x = V.non) = k := by
      cases a with
      | non => exact ⟨true, rfl, fun w x r => by cases r; rfl⟩
      | _ => exact ⟨false, rfl, fun w x r => by cases r <;> simp⟩
    obtain ⟨k, e, hk⟩ := hn
    cases neg with
    | true => exact .inr ⟨k, _, e, op_notN, fun w x y Q rx ry q => by cases ry; exact ⟨rfl, by rw [hk w x rx]; exact q⟩⟩
    | false => exact .inr ⟨k, _, e, op_isN, fun w x y Q rx ry q => by cases ry; exact ⟨rfl, by rw [hk w x rx]; exact q⟩⟩
  | bl j =>
    cases a with
    | bl i =>
      cases neg with
      | true => exact .inr ⟨_, rNotB, rfl, op_notBl, fun w x y Q rx ry q => by cases rx; cases ry; exact ⟨i, j, rfl, rfl, q⟩⟩
      | false => exact .inr ⟨_, rIsB, rfl, op_isBl, fun w x y Q rx ry q => by cases rx; cases ry; exact ⟨i, j, rfl, rfl, q⟩⟩
    | _ => exact .inl rfl
  | _ => exact .inl rfl
theorem suits_is : Suits X G (compareOp .Is) opIs := fun m a b => by
  rcases is_cases (X := X) false m a b with e | ⟨k, r, e, h1, h2⟩
  · exact .inl (by unfold opIs; rw [e])
  · refine .inr ⟨r, h1, fun w σ env x y Q hm A rx ry o => h2 w x y Q rx ry ?_⟩
    subst hm
    unfold opIs at o
    rw [e] at o
    exact out_bl A o
theorem suits_isn : Suits X G (compareOp .IsNot) opIsn := fun m a b => by
  rcases is_cases (X := X) true m a b with e | ⟨k, r, e, h1, h2⟩
  · exact .inl (by unfold opIsn; rw [e])
  · refine .inr ⟨r, h1, fun w σ env x y Q hm A rx ry o => h2 w x y Q rx ry ?_⟩
    subst hm
    unfold opIsn at o
    rw [e] at o
    exact out_bl A o
end
end DL
/-! DL5: slices, isinstance, built-in functions. -/
namespace DL
open PySem PySem.Spec PyProof.Rows L2

section
variable {X : Cx} {G : Dx} {pos p p2 : Pos} {a b e : Expr} {es : List Expr} {fa fb fe : FE} {fs : FA}
/-! ### slices -/
abbrev FO := Env → Mem → R (Option Int)
@[reducible] def oNone : FO := fun _ m => .ok none m
@[reducible] def oSome (fe : FE) : FO := fun env m => (fe env m).bind fun d m1 => match d with
  | .int i => .ok (some i) m1
  | _ => .st
def asO (X : Cx) (G : Dx) (f : FO) : TO := fun σ H Q => ∃ w env, At X G w σ H env ∧ Out G w σ (fun o w' => Q o w'.H) (f env w.mem)
abbrev DO (X : Cx) (G : Dx) (e : Option Expr) (f : FO) : Prop := PO X e (asO X G f)
theorem do_none : DO X G none oNone := ⟨fun pins s σ H Q I q => by
  obtain ⟨w, env, A, o⟩ := q
  refine po_none.run pins s σ H Q I ?_
  have z := o.now A rfl
  rw [A.H] at z
  exact z⟩
theorem do_some (h : DE X G e fe) : DO X G (some e) (oSome fe) := ⟨fun pins s σ H Q I q => by
  obtain ⟨w, env, A, o⟩ := q
  refine (po_some h).run pins s σ H Q I ?_
  refine ⟨w, env, A, (Out.seq o).imp fun d w1 e1 ok1 h1 v rv => ?_⟩
  cases d with
  | int i =>
    cases rv
    exact ⟨i, rfl, h1.here ok1⟩
  | _ => exact h1.elim⟩
def cutD (xs : List D) (lo hi : Option Int) : List D := (xs.drop (HT.sIx xs.length 0 lo)).take (HT.sIx xs.length xs.length hi - HT.sIx xs.length 0 lo)
theorem RepL.cut {w : Wd} {xs : List D} {vs : List V} (r : RepL w xs vs) (lo hi : Option Int) : RepL w (cutD xs lo hi) (cutV vs lo hi) := by
  unfold cutD cutV
  rw [r.len]
  exact (r.drop _).take _
def slD (m : Mem) (lo hi : Option Int) (d : D) : R D := match d with
  | .str z => if z.length ≤ sizeLine then .ok (.str (cutS z lo hi)) m else .st
  | .tup xs => if ¬ (HT.sIx xs.length 0 lo = 0 ∧ HT.sIx xs.length xs.length hi = xs.length) then .ok (.tup (cutD xs lo hi)) m else .st
  | d => match rlstOf m d with
    | some xs => .ok (.lst (cutD xs lo hi)) m
    | none => .st
@[reducible] def fSl (fa : FE) (fl fh : FO) : FE := fun env m => (fa env m).bind fun d m1 => (fl env m1).bind fun lo m2 => (fh env m2).bind fun hi m3 => slD m3 lo hi d
theorem rd_sl {fl fh : FO} {w : Wd} {σ : L2.St} {H : Hp} {env : Env} {Q : VK} {r : V → Option Int → Option Int → Hp → VK → Prop} (A : At X G w σ H env) (h : Out G w σ (PD Q) (fSl fa fl fh env w.mem))
    (hr : ∀ d m lo hi w' v, (∃ m1, fa env w.mem = .ok d m1) → w'.mem = m → At X G w' σ w'.H env → Rep w' d v → Out G w' σ (PD Q) (slD m lo hi d) → r v lo hi w'.H Q) : tSl r (asE X G fa) (asO X G fl) (asO X G fh) σ H Q := by
  refine ⟨w, env, A, ?_⟩
  cases ea : fa env w.mem with
  | ex c fs ds m =>
    rw [show fSl fa fl fh env w.mem = .ex c fs ds m by simp [fSl, R.bind, ea]] at h
    exact h
  | st =>
    rw [show fSl fa fl fh env w.mem = .st by simp [fSl, R.bind, ea]] at h
    exact h.elim
  | ok d m0 =>
    intro w1 e1 hm1 ok1 v rv
    have A1 := A.go e1 ok1
    have h0 := Out.seq h
    rw [ea] at h0
    have h1 := h0 w1 e1 hm1 ok1
    refine ⟨w1, env, A1, (Out.seq h1).imp fun lo w2 e2 ok2 h2 => ?_⟩
    have A2 := A1.go e2 ok2
    refine ⟨w2, env, A2, (Out.seq h2).imp fun hi w3 e3 ok3 h3 => ?_⟩
    exact hr d _ lo hi w3 v ⟨m0, ea⟩ rfl (A2.go e3 ok3) (rv.mono (e2.trans e3)) h3
theorem sl_lst {fl fh : FO} (d : D) : ∀ {m : Mem} {lo hi : Option Int} {w : Wd} {σ : L2.St} {env : Env} {v : V} {Q : VK}, w.mem = m → At X G w σ w.H env → Rep w d v → Out G w σ (PD Q) (match rlstOf m d with
    | some xs => .ok (.lst (cutD xs lo hi)) m
    | none => .st) → rSlL X.K v lo hi w.H Q := by
  intro m lo hi w σ env v Q hm A r o
  subst hm
  cases hl : rlstOf w.mem d with
  | none =>
    rw [hl] at o
    exact o.elim
  | some xs =>
    rw [hl] at o
    obtain ⟨q, vs, rfl, e, rv⟩ := r.asrlst A.rel.ok hl
    exact ⟨q, vs, rfl, A.K ▸ e, fun l hn => o (w.put l _) (Ext.put A.rel.ok hn) rfl (A.rel.ok.put hn) _ (put_lst A.rel.ok hn (rv.cut lo hi))⟩
theorem de_sl {lo hi : Option Expr} {fl fh : FO} (ha : DE X G a fa) (hl : DO X G lo fl) (hh : DO X G hi fh) : DE X G (.Subscript a (.Slice lo hi none p2) pos) (fSl fa fl fh) := ⟨fun pins s σ H Q I q => by
  obtain ⟨w, env, A, h⟩ := q
  have lists : (∀ d m1, fa env w.mem = .ok d m1 → ∀ m lo hi, slD m lo hi d = match rlstOf m d with
    | some xs => .ok (.lst (cutD xs lo hi)) m
    | none => .st) → wpAny (model X.prog X.w) X.A (eval (.Subscript a (.Slice lo hi none p2) pos) X.env) (EP X pins σ Q) X.xe s := fun hd =>
    (pe_slice sl_list ha hl hh).run pins s σ H Q I (rd_sl A h fun d m lo hi w' v ⟨m1, e⟩ hm A' r o => by
      rw [hd d m1 e] at o
      exact sl_lst (fl := fl) (fh := fh) d hm A' r o)
  cases ea : fa env w.mem with
  | ex c fs ds m => exact lists fun d m1 e => by rw [ea] at e; cases e
  | st => exact lists fun d m1 e => by rw [ea] at e; cases e
  | ok d m1 =>
    cases d with
    | str z =>
      refine (pe_slice sl_str ha hl hh).run pins s σ H Q I (rd_sl A h fun d m lo hi w' v ⟨m1, e⟩ hm A' r o => ?_)
      rw [ea] at e
      cases e
      cases r
      subst hm
      have o : Out G w' σ (PD Q) (if z.length ≤ sizeLine then .ok (.str (cutS z lo hi)) w'.mem else .st) := o
      by_cases hz : z.length ≤ sizeLine
      · rw [if_pos hz] at o
        exact ⟨z, rfl, hz, out_str A' o⟩
      · rw [if_neg hz] at o
        exact o.elim
    | tup xs =>
      refine (pe_slice sl_tup ha hl hh).run pins s σ H Q I (rd_sl A h fun d m lo hi w' v ⟨m1, e⟩ hm A' r o => ?_)
      rw [ea] at e
      cases e
      subst hm
      obtain ⟨q, vs, rfl, eT, rv⟩ := r.astup
      have o : Out G w' σ (PD Q) (if ¬ (HT.sIx xs.length 0 lo = 0 ∧ HT.sIx xs.length xs.length hi = xs.length) then .ok (.tup (cutD xs lo hi)) w'.mem else .st) := o
      by_cases hz : ¬ (HT.sIx xs.length 0 lo = 0 ∧ HT.sIx xs.length xs.length hi = xs.length)
      · rw [if_pos hz] at o
        refine ⟨q, vs, rfl, SqT.of eT, by rw [← rv.len]; exact hz, fun l hn => o (w'.put l _) (Ext.put A'.rel.ok hn) rfl (A'.rel.ok.put hn) _ (put_tup A'.rel.ok hn (rv.cut lo hi))⟩
      · rw [if_neg hz] at o
        exact o.elim
    | _ => exact lists fun d m1 e => by rw [ea] at e; cases e; intros; rfl⟩

/-! ### calls of built-in functions -/
@[reducible] def fCall (op : Mem → List D → R D) (fs : FA) : FE := fun env m => (fs env m).bind fun ds m1 => op m1 ds
def GivesC (X : Cx) (G : Dx) (op : Mem → List D → R D) (m : Mem) (ds : List D) (r : List V → Hp → VK → Prop) : Prop :=
  ∀ (w : Wd) (σ : L2.St) (env : Env) (vs : List V) (Q : VK), w.mem = m → At X G w σ w.H env → RepL w ds vs → Out G w σ (PD Q) (op m ds) → r vs w.H Q
theorem call_any {op : Mem → List D → R D} (h0 : ∃ r, PE X e (tCB r (asA X G fs))) (S : ∀ m ds, op m ds = .st ∨ ∃ r, PE X e (tCB r (asA X G fs)) ∧ GivesC X G op m ds r) : DE X G e (fCall op fs) := ⟨fun pins s σ H Q I q => by
  obtain ⟨w, env, A, h⟩ := q
  obtain ⟨r0, p0⟩ := h0
  cases ea : fs env w.mem with
  | ex c f ds m =>
    refine p0.run pins s σ H Q I ⟨w, env, A, ?_⟩
    rw [show fCall op fs env w.mem = .ex c f ds m by simp [fCall, R.bind, ea]] at h
    rw [ea]
    exact h
  | st =>
    rw [show fCall op fs env w.mem = .st by simp [fCall, R.bind, ea]] at h
    exact h.elim
  | ok ds m1 =>
    rcases S m1 ds with z | ⟨r, hp, hr⟩
    · rw [show fCall op fs env w.mem = .st by simp [fCall, R.bind, ea, z]] at h
      exact h.elim
    · refine hp.run pins s σ H Q I ⟨w, env, A, ?_⟩
      rw [ea]
      intro w1 e1 hm1 ok1 vs rv
      rw [show fCall op fs env w.mem = op m1 ds by simp [fCall, R.bind, ea]] at h
      exact hr w1 σ env vs Q hm1 (A.go e1 ok1) rv (h.ext e1)⟩
/-- a built-in function's rule, an operation on data -/
def SuitsC (X : Cx) (G : Dx) (f : Value) (op : Mem → List D → R D) : Prop := ∀ m ds, op m ds = .st ∨ ∃ r, CallR X f r ∧ GivesC X G op m ds r
theorem callr_no {f : Value} : CallR X f (fun _ _ _ => False) := fun _ _ _ _ _ _ _ _ _ h => h.elim
variable {x : Str} {id T : String} {op : Mem → List D → R D}
theorem de_callB (S : SuitsC X G (.builtin id) op) (hg : Gl X x) (hm : X.mg x = none) (hv : bootBuiltins x = some (.builtin id)) (ha : DA X G (e :: es) fs) (hn : x ≠ "__name__" := by decide) (hdb : (x == ("__debug__" : Str)) = false := by decide)
    (he : starEach (e :: es) X.env = (false, eval e X.env) :: starEach es X.env := by rfl) (hpl : (backTo pos (starEach es X.env)).any (·.1) = false := by rfl) : DE X G (.Call (.Name x p) (e :: es) [] pos) (fCall op fs) :=
  call_any ⟨_, pe_callB callr_no hg hm hv ha hn hdb he hpl⟩ fun m ds => (S m ds).imp (fun h => h) fun ⟨r, h1, h2⟩ => ⟨r, pe_callB h1 hg hm hv ha hn hdb he hpl, h2⟩
theorem de_callTy (S : SuitsC X G (.type T) op) (hg : Gl X x) (hm : X.mg x = none) (hv : bootBuiltins x = some (.type T)) (ha : DA X G (e :: es) fs) (hn : x ≠ "__name__" := by decide) (hdb : (x == ("__debug__" : Str)) = false := by decide)
    (he : starEach (e :: es) X.env = (false, eval e X.env) :: starEach es X.env := by rfl) (hpl : (backTo pos (starEach es X.env)).any (·.1) = false := by rfl) : DE X G (.Call (.Name x p) (e :: es) [] pos) (fCall op fs) :=
  call_any ⟨_, pe_callTy callr_no hg hm hv ha hn hdb he hpl⟩ fun m ds => (S m ds).imp (fun h => h) fun ⟨r, h1, h2⟩ => ⟨r, pe_callTy h1 hg hm hv ha hn hdb he hpl, h2⟩

/-- a rule for one argument of a kind -/
def op1 (f : Mem → D → R D) (m : Mem) : List D → R D
  | [d] => f m d
  | _ => .st
def op2 (f : Mem → D → D → R D) (m : Mem) : List D → R D
  | [a, b] => f m a b
  | _ => .st
theorem suits1 {f : Value} {o : Mem → D → R D} (h : ∀ m d, o m d = .st ∨ ∃ r, CallR X f r ∧ ∀ (w : Wd) (σ : L2.St) (env : Env) (v : V) (Q : VK), w.mem = m → At X G w σ w.H env → Rep w d v → Out G w σ (PD Q) (o m d) → r [v] w.H Q) : SuitsC X G f (op1 o) := fun m ds => by
  cases ds with
  | nil => exact .inl rfl
  | cons d r =>
    cases r with
    | cons _ _ => exact .inl rfl
    | nil =>
      rcases h m d with z | ⟨r, h1, h2⟩
      · exact .inl z
      · refine .inr ⟨r, h1, fun w σ env vs Q hm A rv o => ?_⟩
        cases rv with
        | cons q t =>
          cases t
          exact h2 w σ env _ Q hm A q o
theorem suits2 {f : Value} {o : Mem → D → D → R D} (h : ∀ m a b, o m a b = .st ∨ ∃ r, CallR X f r ∧ ∀ (w : Wd) (σ : L2.St) (env : Env) (u v : V) (Q : VK), w.mem = m → At X G w σ w.H env → Rep w a u → Rep w b v → Out G w σ (PD Q) (o m a b) → r [u, v] w.H Q) : SuitsC X G f (op2 o) := fun m ds => by
  match ds with
  | [] => exact .inl rfl
  | [_] => exact .inl rfl
  | _ :: _ :: _ :: _ => exact .inl rfl
  | [a, b] =>
    rcases h m a b with z | ⟨r, h1, h2⟩
    · exact .inl z
    · refine .inr ⟨r, h1, fun w σ env vs Q hm A rv o => ?_⟩
      cases rv with
      | cons q t =>
        cases t with
        | cons q2 t =>
          cases t
          exact h2 w σ env _ _ Q hm A q q2 o
def opAbs (m : Mem) : D → R D
  | .int i => .ok (.int (if i < 0 then -i else i)) m
  | _ => .st
theorem suits_abs : SuitsC X G (.builtin "abs") (op1 opAbs) := suits1 fun m d => by
  cases d with
  | int i => exact .inr ⟨_, call_abs, fun w σ env v Q hm A r o => by subst hm; cases r; exact ⟨i, rfl, out_int A o⟩⟩
  | _ => exact .inl rfl
def opInt (m : Mem) : D → R D
  | .int i => .ok (.int i) m
  | .bl b => .ok (.int (if b then 1 else 0)) m
  | .str a => match PySem.intText? a with
    | some n => if a.length ≤ 640 then .ok (.int n) m else .st
    | none => .st
  | _ => .st
theorem suits_int_ : SuitsC X G (.type "int") (op1 opInt) := suits1 fun m d => by
  cases d with
  | int i => exact .inr ⟨_, call_int1, fun w σ env v Q hm A r o => by subst hm; cases r; exact .inl ⟨i, rfl, out_int A o⟩⟩
  | bl i => exact .inr ⟨_, call_int1, fun w σ env v Q hm A r o => by subst hm; cases r; exact .inr ⟨i, rfl, out_int A o⟩⟩
  | str a =>
    cases hi : PySem.intText? a with
    | none => exact .inl (by show (match PySem.intText? a with | some n => _ | none => _) = _; rw [hi])
    | some n =>
      by_cases hz : a.length ≤ 640
      · refine .inr ⟨_, call_int_str, fun w σ env v Q hm A r o => ?_⟩
        subst hm
        cases r
        have e : opInt w.mem (.str a) = .ok (.int n) w.mem := by
          show (match PySem.intText? a with | some n => _ | none => _) = _
          rw [hi]
          exact if_pos hz
        rw [e] at o
        exact ⟨a, n, rfl, hi, hz, out_int A o⟩
      · exact .inl (by show (match PySem.intText? a with | some n => _ | none => _) = _; rw [hi]; exact if_neg hz)
  | _ => exact .inl rfl
def opStr (m : Mem) : D → R D
  | .int i => if i.natAbs.log2 < 1920 then .ok (.str (toString i)) m else .st
  | _ => .st
theorem suits_str_ : SuitsC X G (.type "str") (op1 opStr) := suits1 fun m d => by
  cases d with
  | int i =>
    by_cases hz : i.natAbs.log2 < 1920
    · refine .inr ⟨_, call_str_int, fun w σ env v Q hm A r o => ?_⟩
      subst hm
      cases r
      have e : opStr w.mem (.int i) = .ok (.str (toString i)) w.mem := if_pos hz
      rw [e] at o
      exact ⟨i, rfl, hz, out_str A o⟩
    · exact .inl (if_neg hz)
  | _ => exact .inl rfl
def opMax2 (m : Mem) : D → D → R D
  | .int i, .int j => .ok (.int (if j > i then j else i)) m
  | _, _ => .st
def opMin2 (m : Mem) : D → D → R D
  | .int i, .int j => .ok (.int (if j < i then j else i)) m
  | _, _ => .st
theorem suits_max2 (hc : X.calm = true) : SuitsC X G (.builtin "max") (op2 opMax2) := suits2 fun m a b => by
  cases a with
  | int i => cases b with
    | int j => exact .inr ⟨_, call_max2 hc, fun w σ env u v Q hm A r r2 o => by subst hm; cases r; cases r2; exact ⟨i, j, rfl, out_int A o⟩⟩
    | _ => exact .inl rfl
  | _ => exact .inl rfl
theorem suits_min2 (hc : X.calm = true) : SuitsC X G (.builtin "min") (op2 opMin2) := suits2 fun m a b => by
  cases a with
  | int i => cases b with
    | int j => exact .inr ⟨_, call_min2 hc, fun w σ env u v Q hm A r r2 o => by subst hm; cases r; cases r2; exact ⟨i, j, rfl, out_int A o⟩⟩
    | _ => exact .inl rfl
  | _ => exact .inl rfl
/-- len -/
def lenD (m : Mem) : D → Option Nat
  | .str x => if x.length ≤ sizeLine then some x.length else none
  | d => match seqOf m d with
    | some xs => some xs.length
    | none => match dicOf m d with
      | some (.k ks ds) => some (ks.zip ds).length
      | some (.t ks ds) => some (ks.zip ds).length
      | none => none
def opLen (m : Mem) (d : D) : R D := match lenD m d with
  | some n => .ok (.int (n : Int)) m
  | none => .st
theorem zip_len {κ : Type} {w : Wd} {ks : List κ} {ds : List D} {vs : List V} (r : RepL w ds vs) : (ks.zip vs).length = (ks.zip ds).length := by
  rw [List.length_zip, List.length_zip, r.len]
theorem suits_len : SuitsC X G (.builtin "len") (op1 opLen) := suits1 fun m d => by
  have gen : ∀ d, lenD m d = (match seqOf m d with
    | some xs => some xs.length
    | none => match dicOf m d with
      | some (.k ks ds) => some (ks.zip ds).length
      | some (.t ks ds) => some (ks.zip ds).length
      | none => none) → opLen m d = .st ∨ ∃ r, CallR X (.builtin "len") r ∧ ∀ (w : Wd) (σ : L2.St) (env : Env) (v : V) (Q : VK), w.mem = m → At X G w σ w.H env → Rep w d v → Out G w σ (PD Q) (opLen m d) → r [v] w.H Q := by
    intro d e
    cases hs : seqOf m d with
    | some xs =>
      rw [hs] at e
      refine .inr ⟨_, call_len_seq, fun w σ env v Q hm A r o => ?_⟩
      subst hm
      have e2 : opLen w.mem d = .ok (.int (xs.length : Int)) w.mem := by unfold opLen; rw [e]
      rw [e2] at o
      obtain ⟨q, vs, rfl, hp, rv⟩ := r.asseq A.rel.ok hs
      refine ⟨q, vs, rfl, A.K ▸ hp, ?_⟩
      rw [← rv.len]
      exact out_int A o
    | none =>
      rw [hs] at e
      cases hd : dicOf m d with
      | none =>
        rw [hd] at e
        exact .inl (by unfold opLen; rw [e])
      | some c =>
        rw [hd] at e
        cases c with
        | k ks ds =>
          refine .inr ⟨_, call_lenD, fun w σ env v Q hm A r o => ?_⟩
          subst hm
          have e2 : opLen w.mem d = .ok (.int ((ks.zip ds).length : Int)) w.mem := by unfold opLen; rw [e]
          rw [e2] at o
          obtain ⟨q, rfl, vs, h1, h2, h3⟩ := r.asdic A.rel.ok hd
          exact ⟨q, _, rfl, h1, by rw [zip_len h3]; exact out_int A o⟩
        | t ks ds =>
          refine .inr ⟨_, call_len_dT, fun w σ env v Q hm A r o => ?_⟩
          subst hm
          have e2 : opLen w.mem d = .ok (.int ((ks.zip ds).length : Int)) w.mem := by unfold opLen; rw [e]
          rw [e2] at o
          obtain ⟨q, rfl, vs, h1, h2, h3⟩ := r.asdic A.rel.ok hd
          exact ⟨q, _, rfl, h1, by rw [zip_len h3]; exact out_int A o⟩
  cases d with
  | str z =>
    by_cases hz : z.length ≤ sizeLine
    · refine .inr ⟨_, call_len_str, fun w σ env v Q hm A r o => ?_⟩
      subst hm
      cases r
      have e2 : opLen w.mem (.str z) = .ok (.int (z.length : Int)) w.mem := by
        unfold opLen
        rw [show lenD w.mem (.str z) = some z.length from if_pos hz]
      rw [e2] at o
      exact ⟨z, rfl, hz, out_int A o⟩
    · exact .inl (by unfold opLen; rw [show lenD m (.str z) = none from if_neg hz])
  | _ => exact gen _ rfl
/-- list(..), tuple(..) of a list or tuple: a new object -/
def opList (m : Mem) (d : D) : R D := match seqOf m d with
  | some xs => .ok (.lst xs) m
  | none => .st
def opListC (m : Mem) (d : D) : R D := match seqOf m d with
  | some xs => mkCell (.lst xs) m
  | none => .st
def opTuple (m : Mem) (d : D) : R D := match d with
  | .tup xs => .ok (.tup xs) m
  | .kt xs => .ok (.kt xs) m
  | d => match rlstOf m d with
    | some xs => .ok (.tup xs) m
    | none => .st
theorem suits_list : SuitsC X G (.type "list") (op1 opList) := suits1 fun m d => by
  cases hs : seqOf m d with
  | none => exact .inl (by unfold opList; rw [hs])
  | some xs =>
    refine .inr ⟨_, call_list_of, fun w σ env v Q hm A r o => ?_⟩
    subst hm
    unfold opList at o
    rw [hs] at o
    obtain ⟨q, vs, rfl, hp, rv⟩ := r.asseq A.rel.ok hs
    exact ⟨q, vs, rfl, A.K ▸ hp, fun l hl => o (w.put l _) (Ext.put A.rel.ok hl) rfl (A.rel.ok.put hl) _ (put_lst A.rel.ok hl rv)⟩
theorem suits_listC : SuitsC X G (.type "list") (op1 opListC) := suits1 fun m d => by
  cases hs : seqOf m d with
  | none => exact .inl (by unfold opListC; rw [hs])
  | some xs =>
    refine .inr ⟨_, call_list_of, fun w σ env v Q hm A r o => ?_⟩
    subst hm
    unfold opListC at o
    rw [hs] at o
    obtain ⟨q, vs, rfl, hp, rv⟩ := r.asseq A.rel.ok hs
    exact ⟨q, vs, rfl, A.K ▸ hp, fun l hl => out_cellL A.rel.ok o rv hl⟩
theorem suits_tuple : SuitsC X G (.type "tuple") (op1 opTuple) := suits1 fun m d => by
  have gen : ∀ d, opTuple m d = (match rlstOf m d with
    | some xs => .ok (.tup xs) m
    | none => .st) → opTuple m d = .st ∨ ∃ r, CallR X (.type "tuple") r ∧ ∀ (w : Wd) (σ : L2.St) (env : Env) (v : V) (Q : VK), w.mem = m → At X G w σ w.H env → Rep w d v → Out G w σ (PD Q) (opTuple m d) → r [v] w.H Q := by
    intro d e
    cases hs : rlstOf m d with
    | none => exact .inl (by rw [e, hs])
    | some xs =>
      refine .inr ⟨_, call_tuple_of, fun w σ env v Q hm A r o => ?_⟩
      subst hm
      rw [e, hs] at o
      obtain ⟨q, vs, rfl, hp, rv⟩ := r.asrlst A.rel.ok hs
      exact ⟨q, vs, rfl, .inl ⟨A.K ▸ hp, fun l hl => o (w.put l _) (Ext.put A.rel.ok hl) rfl (A.rel.ok.put hl) _ (put_tup A.rel.ok hl rv)⟩⟩
  cases d with
  | tup xs =>
    refine .inr ⟨_, call_tuple_of, fun w σ env v Q hm A r o => ?_⟩
    subst hm
    obtain ⟨q, vs, rfl, hp, rv⟩ := r.astup
    exact ⟨q, vs, rfl, .inr ⟨SqT.of hp, o.now A rfl _ r⟩⟩
  | kt xs =>
    refine .inr ⟨_, call_tuple_of, fun w σ env v Q hm A r o => ?_⟩
    subst hm
    cases r with
    | kt hp rv => exact ⟨_, _, rfl, .inr ⟨A.K ▸ hp, o.now A rfl _ (.kt hp rv)⟩⟩
  | _ => exact gen _ rfl
/-! ### sums, greatest, least, all, any -/
def intsD : List D → Option (List Int)
  | [] => some []
  | .int i :: r => (intsD r).map (i :: ·)
  | _ => none
def blsD : List D → Option (List Bool)
  | [] => some []
  | .bl i :: r => (blsD r).map (i :: ·)
  | _ => none
theorem intsD_map : ∀ {ds : List D} {ns : List Int}, intsD ds = some ns → ds = ns.map D.int
  | [], _, h => by cases h; rfl
  | d :: ds, ns, h => by
    cases d with
    | int i =>
      have h1 : (intsD ds).map (i :: ·) = some ns := h
      cases hr : intsD ds with
      | none => rw [hr] at h1; cases h1
      | some r =>
        rw [hr] at h1
        cases h1
        rw [intsD_map hr]
        rfl
    | _ => cases h
theorem blsD_map : ∀ {ds : List D} {ns : List Bool}, blsD ds = some ns → ds = ns.map D.bl
  | [], _, h => by cases h; rfl
  | d :: ds, ns, h => by
    cases d with
    | bl i =>
      have h1 : (blsD ds).map (i :: ·) = some ns := h
      cases hr : blsD ds with
      | none => rw [hr] at h1; cases h1
      | some r =>
        rw [hr] at h1
        cases h1
        rw [blsD_map hr]
        rfl
    | _ => cases h
theorem intsD_of : ∀ (ns : List Int), intsD (ns.map D.int) = some ns
  | [] => rfl
  | n :: ns => by
    show (intsD (ns.map D.int)).map (n :: ·) = _
    rw [intsD_of ns] <;> rfl
theorem blsD_of : ∀ (ns : List Bool), blsD (ns.map D.bl) = some ns
  | [] => rfl
  | n :: ns => by
    show (blsD (ns.map D.bl)).map (n :: ·) = _
    rw [blsD_of ns] <;> rfl
def maxL : List Int → Int
  | [] => 0
  | x :: r => r.foldl (fun a b => if b > a then b else a) x
def minL : List Int → Int
  | [] => 0
  | x :: r => r.foldl (fun a b => if b < a then b else a) x
theorem foldl_max : ∀ (r : List Int) (x : Int), (r.foldl (fun a b => if b > a then b else a) x = x ∨ r.foldl (fun a b => if b > a then b else a) x ∈ r) ∧ x ≤ r.foldl (fun a b => if b > a then b else a) x ∧ ∀ y ∈ r, y ≤ r.foldl (fun a b => if b > a then b else a) x
  | [], x => ⟨.inl rfl, Int.le_refl _, fun _ h => by cases h⟩
  | z :: r, x => by
    obtain ⟨h1, h2, h3⟩ := foldl_max r (if z > x then z else x)
    rw [List.foldl_cons]
    refine ⟨?_, ?_, fun y hy => ?_⟩
    · rcases h1 with h1 | h1
      · rw [h1]
        split
        · exact .inr List.mem_cons_self
        · exact .inl rfl
      · exact .inr (List.mem_cons_of_mem _ h1)
    · exact Int.le_trans (by split <;> omega) h2
    · rcases List.mem_cons.mp hy with rfl | hy
      · exact Int.le_trans (by split <;> omega) h2
      · exact h3 y hy
theorem foldl_min : ∀ (r : List Int) (x : Int), (r.foldl (fun a b => if b < a then b else a) x = x ∨ r.foldl (fun a b => if b < a then b else a) x ∈ r) ∧ r.foldl (fun a b => if b < a then b else a) x ≤ x ∧ ∀ y ∈ r, r.foldl (fun a b => if b < a then b else a) x ≤ y
  | [], x => ⟨.inl rfl, Int.le_refl _, fun _ h => by cases h⟩
  | z :: r, x => by
    obtain ⟨h1, h2, h3⟩ := foldl_min r (if z < x then z else x)
    rw [List.foldl_cons]
    refine ⟨?_, ?_, fun y hy => ?_⟩
    · rcases h1 with h1 | h1
      · rw [h1]
        split
        · exact .inr List.mem_cons_self
        · exact .inl rfl
      · exact .inr (List.mem_cons_of_mem _ h1)
    · exact Int.le_trans h2 (by split <;> omega)
    · rcases List.mem_cons.mp hy with rfl | hy
      · exact Int.le_trans h2 (by split <;> omega)
      · exact h3 y hy
theorem maxL_mem {ns : List Int} (h : 0 < ns.length) : maxL ns ∈ ns ∧ ∀ y ∈ ns, y ≤ maxL ns := by
  cases ns with
  | nil => cases h
  | cons x r =>
    obtain ⟨h1, h2, h3⟩ := foldl_max r x
    refine ⟨?_, fun y hy => ?_⟩
    · rcases h1 with h1 | h1
      · show r.foldl _ x ∈ _
        rw [h1]
        exact List.mem_cons_self
      · exact List.mem_cons_of_mem _ h1
    · rcases List.mem_cons.mp hy with rfl | hy
      · exact h2
      · exact h3 y hy
theorem minL_mem {ns : List Int} (h : 0 < ns.length) : minL ns ∈ ns ∧ ∀ y ∈ ns, minL ns ≤ y := by
  cases ns with
  | nil => cases h
  | cons x r =>
    obtain ⟨h1, h2, h3⟩ := foldl_min r x
    refine ⟨?_, fun y hy => ?_⟩
    · rcases h1 with h1 | h1
      · show r.foldl _ x ∈ _
        rw [h1]
        exact List.mem_cons_self
      · exact List.mem_cons_of_mem _ h1
    · rcases List.mem_cons.mp hy with rfl | hy
      · exact h2
      · exact h3 y hy
/-- one list of ints -/
def opInts (f : List Int → Option D) (m : Mem) (d : D) : R D := match (rlstOf m d).bind intsD with
  | some ns => match f ns with
    | some z => .ok z m
    | none => .st
  | none => .st
def opBls (f : List Bool → D) (m : Mem) (d : D) : R D := match (rlstOf m d).bind blsD with
  | some ns => .ok (f ns) m
  | none => .st
theorem ints_at {w : Wd} (ok : Wok w) {d : D} {v : V} {ns : List Int} (r : Rep w d v) (h : (rlstOf w.mem d).bind intsD = some ns) : ∃ q, v = .ref q ∧ SqL w.K w.H q (ns.map V.int) := by
  cases hl : rlstOf w.mem d with
  | none => rw [hl] at h; cases h
  | some xs =>
    rw [hl] at h
    obtain ⟨q, vs, rfl, e, rv⟩ := r.asrlst ok hl
    have hx : intsD xs = some ns := h
    rw [intsD_map hx] at rv
    rw [rv.ints] at e
    exact ⟨q, rfl, e⟩
theorem bls_at {w : Wd} (ok : Wok w) {d : D} {v : V} {ns : List Bool} (r : Rep w d v) (h : (rlstOf w.mem d).bind blsD = some ns) : ∃ q, v = .ref q ∧ SqL w.K w.H q (ns.map V.bl) := by
  cases hl : rlstOf w.mem d with
  | none => rw [hl] at h; cases h
  | some xs =>
    rw [hl] at h
    obtain ⟨q, vs, rfl, e, rv⟩ := r.asrlst ok hl
    have hx : blsD xs = some ns := h
    rw [blsD_map hx] at rv
    rw [rv.bls] at e
    exact ⟨q, rfl, e⟩
def opSum := opInts fun ns => some (.int ns.sum)
def opMax1 := opInts fun ns => if 0 < ns.length then some (.int (maxL ns)) else none
def opMin1 := opInts fun ns => if 0 < ns.length then some (.int (minL ns)) else none
def opAll := opBls fun bs => .bl (bs.all _root_.id)
def opAny := opBls fun bs => .bl (bs.any _root_.id)
theorem suits_sum (hc : X.calm = true) : SuitsC X G (.builtin "sum") (op1 opSum) := suits1 fun m d => by
  cases hl : (rlstOf m d).bind intsD with
  | none => exact .inl (by unfold opSum opInts; rw [hl])
  | some ns =>
    refine .inr ⟨_, cr_sum hc, fun w σ env v Q hm A r o => ?_⟩
    subst hm
    unfold opSum opInts at o
    rw [hl] at o
    obtain ⟨q, rfl, e⟩ := ints_at A.rel.ok r hl
    exact ⟨q, ns, rfl, A.K ▸ e, out_int A o⟩
theorem suits_max1 (hc : X.calm = true) : SuitsC X G (.builtin "max") (op1 opMax1) := suits1 fun m d => by
  cases hl : (rlstOf m d).bind intsD with
  | none => exact .inl (by unfold opMax1 opInts; rw [hl])
  | some ns =>
    by_cases hz : 0 < ns.length
    · refine .inr ⟨_, cr_max hc, fun w σ env v Q hm A r o => ?_⟩
      subst hm
      unfold opMax1 opInts at o
      rw [hl] at o
      dsimp only at o
      rw [if_pos hz] at o
      obtain ⟨q, rfl, e⟩ := ints_at A.rel.ok r hl
      refine ⟨q, ns, rfl, A.K ▸ e, hz, fun k hk hle => ?_⟩
      obtain ⟨h1, h2⟩ := maxL_mem hz
      have : k = maxL ns := Int.le_antisymm (h2 k hk) (hle _ h1)
      rw [this]
      exact out_int A o
    · exact .inl (by unfold opMax1 opInts; rw [hl]; dsimp only; rw [if_neg hz])
theorem suits_min1 (hc : X.calm = true) : SuitsC X G (.builtin "min") (op1 opMin1) := suits1 fun m d => by
  cases hl : (rlstOf m d).bind intsD with
  | none => exact .inl (by unfold opMin1 opInts; rw [hl])
  | some ns =>
    by_cases hz : 0 < ns.length
    · refine .inr ⟨_, cr_min hc, fun w σ env v Q hm A r o => ?_⟩
      subst hm
      unfold opMin1 opInts at o
      rw [hl] at o
      dsimp only at o
      rw [if_pos hz] at o
      obtain ⟨q, rfl, e⟩ := ints_at A.rel.ok r hl
      refine ⟨q, ns, rfl, A.K ▸ e, hz, fun k hk hle => ?_⟩
      obtain ⟨h1, h2⟩ := minL_mem hz
      have : k = minL ns := Int.le_antisymm (hle _ h1) (h2 k hk)
      rw [this]
      exact out_int A o
    · exact .inl (by unfold opMin1 opInts; rw [hl]; dsimp only; rw [if_neg hz])
theorem suits_all (hc : X.calm = true) : SuitsC X G (.builtin "all") (op1 opAll) := suits1 fun m d => by
  cases hl : (rlstOf m d).bind blsD with
  | none => exact .inl (by unfold opAll opBls; rw [hl])
  | some ns =>
    refine .inr ⟨_, cr_all hc, fun w σ env v Q hm A r o => ?_⟩
    subst hm
    unfold opAll opBls at o
    rw [hl] at o
    obtain ⟨q, rfl, e⟩ := bls_at A.rel.ok r hl
    exact ⟨q, ns, rfl, A.K ▸ e, out_bl A o⟩
theorem suits_any (hc : X.calm = true) : SuitsC X G (.builtin "any") (op1 opAny) := suits1 fun m d => by
  cases hl : (rlstOf m d).bind blsD with
  | none => exact .inl (by unfold opAny opBls; rw [hl])
  | some ns =>
    refine .inr ⟨_, cr_any hc, fun w σ env v Q hm A r o => ?_⟩
    subst hm
    unfold opAny opBls at o
    rw [hl] at o
    obtain ⟨q, rfl, e⟩ := bls_at A.rel.ok r hl
    exact ⟨q, ns, rfl, A.K ▸ e, out_bl A o⟩
end
end DL
/-! DL6: isinstance, methods of lists, dicts and texts. -/
namespace DL
open PySem PySem.Spec PyProof.Rows L2

/-! ### isinstance -/
def subTy (t T : String) : Bool := t == T || (t == "bool" && T == "int")
theorem kit_b (K : PySem.W.Frag) : ∀ t ∈ btys, ∀ T ∈ btys, PySem.W.kitOne K (.type t) (.type T) = some (subTy t T) := by
  intro t ht T hT
  simp only [btys, List.mem_cons, List.not_mem_nil, or_false] at ht hT
  rcases ht with rfl | rfl | rfl | rfl | rfl | rfl | rfl <;> rcases hT with rfl | rfl | rfl | rfl | rfl | rfl | rfl <;> rfl
def tyD (m : Mem) : D → Option String
  | .non => some "NoneType"
  | .bl _ => some "bool"
  | .int _ => some "int"
  | .str _ => some "str"
  | .lst _ => some "list"
  | .fl _ => none
  | .tup _ => some "tuple"
  | .kt _ => some "tuple"
  | .dk _ _ => some "dict"
  | .dt _ _ => some "dict"
  | .obj _ _ _ => none
  | .cel k => match m[k]? with
    | some (some (.lst _)) => some "list"
    | some (some (.dk _ _)) => some "dict"
    | some (some (.dt _ _)) => some "dict"
    | _ => none
theorem Rep.ty {w : Wd} (ok : Wok w) {d : D} {v : V} {t : String} (r : Rep w d v) (h : tyD w.mem d = some t) : TyX w.K w.H v (.type t) ∧ t ∈ btys := by
  cases r with
  | non => cases h; exact ⟨.base .non, by simp [btys]⟩
  | bl => cases h; exact ⟨.base (.bl _), by simp [btys]⟩
  | int => cases h; exact ⟨.base (.int _), by simp [btys]⟩
  | str => cases h; exact ⟨.base (.str _), by simp [btys]⟩
  | lst n e q => cases h; exact ⟨.base (.lst e), by simp [btys]⟩
  | fl e => cases h
  | tup e q => cases h; exact ⟨.base (.tup e), by simp [btys]⟩
  | kt e q =>
    cases h
    refine ⟨?_, by simp [btys]⟩
    rcases e with (e | ⟨o, e⟩) | ⟨o, its, n, e, c, _⟩
    · exact .base (.tup e)
    · exact .fTuple e
    · exact .kTuple e c
  | dk n e l q => cases h; exact ⟨.base (.dK e), by simp [btys]⟩
  | dt n e l q => cases h; exact ⟨.base (.dT e), by simp [btys]⟩
  | obj n e l q => cases h
  | @cel k hk =>
    have h : (match w.mem[k]? with
      | some (some (.lst _)) => some "list"
      | some (some (.dk _ _)) => some "dict"
      | some (some (.dt _ _)) => some "dict"
      | _ => none) = some t := h
    split at h
    · rename_i e
      cases h
      obtain ⟨vs, e2, _⟩ := ok.cell k _ e
      exact ⟨.base (.lst e2), by simp [btys]⟩
    · rename_i e
      cases h
      obtain ⟨vs, e2, _⟩ := ok.cell k _ e
      exact ⟨.base (.dK e2), by simp [btys]⟩
    · rename_i e
      cases h
      obtain ⟨vs, e2, _⟩ := ok.cell k _ e
      exact ⟨.base (.dT e2), by simp [btys]⟩
    · cases h
/-- isinstance(d, one of Ts), built-in types -/
def isiD (cs : List Str) (Ts : List String) (m : Mem) (d : D) : R D := match d with
  | .obj c _ _ => if c ∈ cs then .ok (.bl false) m else .st
  | d => match tyD m d with
    | some t => .ok (.bl (Ts.any fun T => subTy t T)) m
    | none => .st
/-- isinstance(d, C), an own class -/
def isiC (cs : List Str) (C : Str) (m : Mem) (d : D) : R D := match d with
  | .obj c _ _ => if c ∈ cs ∧ C ∈ cs then .ok (.bl (decide (c = C))) m else .st
  | d => match tyD m d with
    | some _ => if C ∈ cs then .ok (.bl false) m else .st
    | none => .st
@[reducible] def f1 (op : Mem → D → R D) (fe : FE) : FE := fun env m => (fe env m).bind fun d m1 => op m1 d
section
variable {X : Cx} {G : Dx} {pos p p1 p2 p3 : Pos} {e : Expr} {fe : FE} {cs : List Str}
/-- the type that the rules see -/
theorem isi_ty {T0 : Tab X.K G.cl cs} {w : Wd} {σ : L2.St} {env : Env} (A : At X G w σ w.H env) {d : D} {v : V} (r : Rep w d v) : (∃ c fs ds, d = .obj c fs ds ∧ (c ∈ cs → TyX X.K w.H v (.ref (G.cl c)))) ∨ ((∀ c fs ds, d ≠ .obj c fs ds) ∧ ∀ t, tyD w.mem d = some t → TyX X.K w.H v (.type t) ∧ t ∈ btys) := by
  cases d with
  | obj c fs ds =>
    refine .inl ⟨c, fs, ds, rfl, fun hc => ?_⟩
    cases r with
    | obj n eH l q =>
      have F := T0.cls c hc
      rw [A.cl] at eH
      exact .base (.ins eH F.cl F.ha F.hn F.tk F.mr)
  | _ => exact .inr ⟨fun _ _ _ z => (nomatch z), fun t ht => A.K ▸ r.ty A.rel.ok ht⟩
theorem de_isi {T : String} {y : Str} (T0 : Tab X.K G.cl cs) (hT : T ∈ btys) (hg : Gl X "isinstance") (hm : X.mg "isinstance" = none) (he : DE X G e fe) (hgT : Gl X y) (hmT : X.mg y = none) (hvT : bootBuiltins y = some (.type T)) (hn : y ≠ "__name__" := by decide) (hd : (y == ("__debug__" : Str)) = false := by decide)
    (h1 : starEach [e, .Name y p2] X.env = (false, eval e X.env) :: starEach [.Name y p2] X.env := by rfl) (h2 : (backTo pos (starEach [.Name y p2] X.env)).any (·.1) = false := by rfl) (h3 : starEach [.Name y p2] X.env = (false, eval (.Name y p2) X.env) :: starEach [] X.env := by rfl) :
    DE X G (.Call (.Name "isinstance" p) [e, .Name y p2] [] pos) (f1 (isiD cs [T]) fe) := ⟨fun pins s σ H Q I q => by
  obtain ⟨w, env, A, h⟩ := q
  refine (pe_callB call_isi hg hm boot_isinstance (pa_cons he (pa_cons (pe_bltn (v := .ty T) hgT hmT hvT rfl hn hd) pa_nil h3) h1) (by decide) (by decide) h1 h2).run pins s σ H Q I ?_
  refine ⟨w, env, A, (Out.seq h).imp fun d w1 e1 ok1 o v rv => ?_⟩
  have A1 := A.go e1 ok1
  rcases isi_ty (T0 := T0) A1 rv with ⟨c, fs, ds, rfl, hty⟩ | ⟨hno, hty⟩
  · have o : Out G w1 σ (PD Q) (if c ∈ cs then .ok (.bl false) w1.mem else .st) := o
    by_cases hc : c ∈ cs
    · rw [if_pos hc] at o
      exact ⟨v, .ty T, .ref (G.cl c), .type T, false, rfl, .ty T, hty hc, (T0.cls c hc).to T hT, out_bl A1 o⟩
    · rw [if_neg hc] at o
      exact o.elim
  · have eo : isiD cs [T] w1.mem d = (match tyD w1.mem d with
      | some t => .ok (.bl ([T].any fun T => subTy t T)) w1.mem
      | none => .st) := by
      cases d with
      | obj c fs ds => exact absurd rfl (hno c fs ds)
      | _ => rfl
    rw [eo] at o
    cases ht : tyD w1.mem d with
    | none => rw [ht] at o; exact o.elim
    | some t =>
      rw [ht] at o
      obtain ⟨hx, hb⟩ := hty t ht
      refine ⟨v, .ty T, .type t, .type T, subTy t T, rfl, .ty T, hx, kit_b X.K t hb T hT, ?_⟩
      have z := out_bl A1 o
      simpa using z⟩
/-- isinstance(e, (T, U)) -/
theorem de_isi2 {T U : String} {y z : Str} {k : Nat} (T0 : Tab X.K G.cl cs) (hT : T ∈ btys) (hU : U ∈ btys) (hg : Gl X "isinstance") (hm : X.mg "isinstance" = none) (he : DE X G e fe) (hgT : Gl X y) (hmT : X.mg y = none) (hvT : bootBuiltins y = some (.type T))
    (hgU : Gl X z) (hmU : X.mg z = none) (hvU : bootBuiltins z = some (.type U)) (hn : y ≠ "__name__" := by decide) (hd : (y == ("__debug__" : Str)) = false := by decide) (hn2 : z ≠ "__name__" := by decide) (hd2 : (z == ("__debug__" : Str)) = false := by decide)
    (h1 : starEach [e, .Tuple [.Name y p1, .Name z p2] k p3] X.env = (false, eval e X.env) :: starEach [.Tuple [.Name y p1, .Name z p2] k p3] X.env := by rfl) (h2 : (backTo pos (starEach [.Tuple [.Name y p1, .Name z p2] k p3] X.env)).any (·.1) = false := by rfl)
    (h3 : starEach [.Tuple [.Name y p1, .Name z p2] k p3] X.env = (false, eval (.Tuple [.Name y p1, .Name z p2] k p3) X.env) :: starEach [] X.env := by rfl) :
    DE X G (.Call (.Name "isinstance" p) [e, .Tuple [.Name y p1, .Name z p2] k p3] [] pos) (f1 (isiD cs [T, U]) fe) := ⟨fun pins s σ H Q I q => by
  obtain ⟨w, env, A, h⟩ := q
  refine (pe_callB call_isiT hg hm boot_isinstance (pa_cons he (pa_cons (pe_tup (pa_cons (pe_bltn (v := .ty T) hgT hmT hvT rfl hn hd) (pa_cons (pe_bltn (v := .ty U) hgU hmU hvU rfl hn2 hd2) pa_nil (by rfl)) (by rfl))) pa_nil h3) h1) (by decide) (by decide) h1 h2).run pins s σ H Q I ?_
  refine ⟨w, env, A, (Out.seq h).imp fun d w1 e1 ok1 o v rv => ?_⟩
  refine ⟨by show 2 ≤ sizeLine; decide, fun l hl => ?_⟩
  have e2 := Ext.put (o := .tup [V.ty T, V.ty U]) ok1 hl
  have ok2 := ok1.put (o := .tup [V.ty T, V.ty U]) hl
  have A2 := (A.go e1 ok1).go e2 ok2
  have rv2 := rv.mono e2
  have o2 := o.ext e2
  rcases isi_ty (T0 := T0) A2 rv2 with ⟨c, fs, ds, rfl, hty⟩ | ⟨hno, hty⟩
  · have o2 : Out G (w1.put l (.tup [V.ty T, V.ty U])) σ (PD Q) (if c ∈ cs then .ok (.bl false) w1.mem else .st) := o2
    by_cases hc : c ∈ cs
    · rw [if_pos hc] at o2
      refine ⟨v, l, [.ty T, .ty U], .ref (G.cl c), [.type T, .type U], false, rfl, upd_same, .cons (.ty T) (.cons (.ty U) .nil), hty hc, ?_, out_bl A2 o2⟩
      unfold PySem.W.kitAny
      rw [(T0.cls c hc).to T hT]
      unfold PySem.W.kitAny
      rw [(T0.cls c hc).to U hU] <;> rfl
    · rw [if_neg hc] at o2
      exact o2.elim
  · have eo : isiD cs [T, U] w1.mem d = (match tyD w1.mem d with
      | some t => .ok (.bl ([T, U].any fun T => subTy t T)) w1.mem
      | none => .st) := by
      cases d with
      | obj c fs ds => exact absurd rfl (hno c fs ds)
      | _ => rfl
    rw [eo] at o2
    cases ht : tyD w1.mem d with
    | none => rw [ht] at o2; exact o2.elim
    | some t =>
      rw [ht] at o2
      obtain ⟨hx, hb⟩ := hty t ht
      have zz := out_bl A2 o2
      refine ⟨v, l, [.ty T, .ty U], .type t, [.type T, .type U], subTy t T || subTy t U, rfl, upd_same, .cons (.ty T) (.cons (.ty U) .nil), hx, ?_, by show Q (V.bl (subTy t T || subTy t U)) (w1.put l (HO.tup [V.ty T, V.ty U])).H; simpa using zz⟩
      unfold PySem.W.kitAny
      rw [kit_b X.K t hb T hT]
      cases subTy t T with
      | true => rfl
      | false =>
        show PySem.W.kitAny X.K (.type t) [.type U] = _
        unfold PySem.W.kitAny
        rw [kit_b X.K t hb U hU]
        cases subTy t U <;> rfl⟩
theorem de_isic {C y : Str} (T0 : Tab X.K G.cl cs) (hg : Gl X "isinstance") (hm : X.mg "isinstance" = none) (he : DE X G e fe) (hgT : Gl X y) (hmT : X.mg y = some (.ref (G.cl C))) (hd : (y == ("__debug__" : Str)) = false := by decide)
    (h1 : starEach [e, .Name y p2] X.env = (false, eval e X.env) :: starEach [.Name y p2] X.env := by rfl) (h2 : (backTo pos (starEach [.Name y p2] X.env)).any (·.1) = false := by rfl) (h3 : starEach [.Name y p2] X.env = (false, eval (.Name y p2) X.env) :: starEach [] X.env := by rfl) :
    DE X G (.Call (.Name "isinstance" p) [e, .Name y p2] [] pos) (f1 (isiC cs C) fe) := ⟨fun pins s σ H Q I q => by
  obtain ⟨w, env, A, h⟩ := q
  refine (pe_callB call_isi hg hm boot_isinstance (pa_cons he (pa_cons (pe_glob (v := .ref (G.cl C)) hgT hmT rfl hd) pa_nil h3) h1) (by decide) (by decide) h1 h2).run pins s σ H Q I ?_
  refine ⟨w, env, A, (Out.seq h).imp fun d w1 e1 ok1 o v rv => ?_⟩
  have A1 := A.go e1 ok1
  rcases isi_ty (T0 := T0) A1 rv with ⟨c, fs, ds, rfl, hty⟩ | ⟨hno, hty⟩
  · have o : Out G w1 σ (PD Q) (if c ∈ cs ∧ C ∈ cs then .ok (.bl (decide (c = C))) w1.mem else .st) := o
    by_cases hc : c ∈ cs ∧ C ∈ cs
    · rw [if_pos hc] at o
      exact ⟨v, .ref (G.cl C), .ref (G.cl c), .ref (G.cl C), decide (c = C), rfl, .own _, hty hc.1, T0.pair c hc.1 C hc.2, out_bl A1 o⟩
    · rw [if_neg hc] at o
      exact o.elim
  · have eo : isiC cs C w1.mem d = (match tyD w1.mem d with
      | some _ => if C ∈ cs then .ok (.bl false) w1.mem else .st
      | none => .st) := by
      cases d with
      | obj c fs ds => exact absurd rfl (hno c fs ds)
      | _ => rfl
    rw [eo] at o
    cases ht : tyD w1.mem d with
    | none => rw [ht] at o; exact o.elim
    | some t =>
      rw [ht] at o
      dsimp only at o
      by_cases hc : C ∈ cs
      · rw [if_pos hc] at o
        obtain ⟨hx, hb⟩ := hty t ht
        exact ⟨v, .ref (G.cl C), .type t, .ref (G.cl C), false, rfl, .own _, hx, (T0.cls C hc).of t hb, out_bl A1 o⟩
      · rw [if_neg hc] at o
        exact o.elim⟩
end

/-! ### a cell is changed -/
def Wd.cellSet (w : Wd) (k : Nat) (o : HO) (c : C) : Wd := { w with H := upd w.H (w.ad k) o, mem := w.mem.set k (some c) }
section
variable {w : Wd} {k : Nat} {c c' : C} {o : HO}
theorem mem_set {m : Mem} {j : Nat} {c' d : C} (h : (m.set k (some c'))[j]? = some (some d)) : (j = k ∧ d = c') ∨ (j ≠ k ∧ m[j]? = some (some d)) := by
  by_cases hj : k = j
  · subst hj
    by_cases hl : k < m.length
    · rw [List.getElem?_set_self hl] at h
      cases h
      exact .inl ⟨rfl, rfl⟩
    · rw [List.getElem?_eq_none (by simpa using hl)] at h
      cases h
  · rw [List.getElem?_set_ne hj] at h
    exact .inr ⟨fun z => hj z.symm, h⟩
theorem Wok.cell_ho (ok : Wok w) (h : w.mem[k]? = some (some c)) : ∃ u, w.H (w.ad k) = some u ∧ (∀ xs, u ≠ .tup xs) ∧ ∀ b x, u ≠ .frz b x := by
  have q := ok.cell k c h
  cases c with
  | lst xs =>
    obtain ⟨vs, h, _⟩ := q
    exact ⟨_, h, fun _ z => (nomatch z), fun _ _ z => (nomatch z)⟩
  | dk ks ds =>
    obtain ⟨vs, h, _⟩ := q
    exact ⟨_, h, fun _ z => (nomatch z), fun _ _ z => (nomatch z)⟩
  | dt ks ds =>
    obtain ⟨vs, h, _⟩ := q
    exact ⟨_, h, fun _ z => (nomatch z), fun _ _ z => (nomatch z)⟩
  | ins c fs ds =>
    obtain ⟨dx, vs, h, _⟩ := q
    exact ⟨_, h, fun _ z => (nomatch z), fun _ _ z => (nomatch z)⟩
theorem Ext.cellSet (ok : Wok w) (h : w.mem[k]? = some (some c)) : Ext w (w.cellSet k o c') := by
  obtain ⟨u, hu, n1, n2⟩ := ok.cell_ho h
  refine ⟨rfl, rfl, by show w.mem.length ≤ (w.mem.set k (some c')).length; simp, fun _ _ => rfl, fun a x e n => ?_, fun a xs e => ?_, fun a b x e => ?_, fun a e => ?_, fun _ h => h, fun a r => ?_⟩
  · have hne : a ≠ w.ad k := fun z => n (.inl ⟨k, c, h, z.symm⟩)
    refine ⟨by show upd w.H (w.ad k) o a = _; rw [upd_ne hne]; exact e, fun z => ?_⟩
    rcases z with ⟨j, d, hj, ha⟩ | z
    · rcases mem_set hj with ⟨rfl, _⟩ | ⟨_, h2⟩
      · exact hne ha.symm
      · exact n (.inl ⟨j, d, h2, ha⟩)
    · exact n (.inr z)
  · show upd w.H (w.ad k) o a = _
    rw [upd_ne fun z => n1 xs (by rw [z, hu] at e; exact Option.some.inj e)]
    exact e
  · show upd w.H (w.ad k) o a = _
    rw [upd_ne fun z => n2 b x (by rw [z, hu] at e; exact Option.some.inj e)]
    exact e
  · have e1 : upd w.H (w.ad k) o a = none := e
    by_cases z : a = w.ad k
    · rw [z, upd_same] at e1
      cases e1
    · rw [upd_ne z] at e1
      exact e1
  · show upd w.H (w.ad k) o a = _
    rw [upd_ne fun z => ok.nrs k c h (by rw [← z]; exact r)]
theorem Wok.cellSet (ok : Wok w) (h : w.mem[k]? = some (some c)) (hc : CellOk (w.cellSet k o c') k c') : Wok (w.cellSet k o c') := by
  have e := Ext.cellSet (o := o) (c' := c') ok h
  have other : ∀ {j : Nat} {d : C}, j ≠ k → w.mem[j]? = some (some d) → w.ad j ≠ w.ad k := fun {j d} hj hd z => hj (ok.inj j k d c hd h z)
  refine ⟨fun j d hj => ?_, fun i j d d' h1 h2 q => ?_, fun j d hj => ?_, fun a r => ?_⟩
  · rcases mem_set hj with ⟨rfl, rfl⟩ | ⟨hne, h2⟩
    · exact hc
    · refine (ok.cell j d h2).ext e rfl ?_
      show upd w.H (w.ad k) o (w.ad j) = _
      rw [upd_ne (other hne h2)]
  · rcases mem_set h1 with ⟨rfl, rfl⟩ | ⟨n1, g1⟩
    · rcases mem_set h2 with ⟨rfl, rfl⟩ | ⟨n2, g2⟩
      · rfl
      · exact absurd q.symm (other n2 g2)
    · rcases mem_set h2 with ⟨rfl, rfl⟩ | ⟨n2, g2⟩
      · exact absurd q (other n1 g1)
      · exact ok.inj i j d d' g1 g2 q
  · rcases mem_set hj with ⟨rfl, rfl⟩ | ⟨_, h2⟩
    · exact ok.nrs j c h
    · exact ok.nrs j d h2
  · obtain ⟨u, q⟩ := ok.rso a r
    exact ⟨u, by rw [e.rsk a r]; exact q⟩
theorem cellSet_lst (ok : Wok w) (h : w.mem[k]? = some (some c)) {xs : List D} {vs : List V} (r : RepL w xs vs) : Wok (w.cellSet k (.lst vs) (.lst xs)) := ok.cellSet h ⟨vs, upd_same, r.mono (Ext.cellSet ok h)⟩
theorem cellSet_dk (ok : Wok w) (h : w.mem[k]? = some (some c)) {ks : List Key} {ds : List D} {vs : List V} (l : ks.length = ds.length) (r : RepL w ds vs) : Wok (w.cellSet k (.dK (ks.zip vs)) (.dk ks ds)) := ok.cellSet h ⟨vs, upd_same, l, r.mono (Ext.cellSet ok h)⟩
theorem cellSet_dt (ok : Wok w) (h : w.mem[k]? = some (some c)) {ks : List (List Key)} {ds : List D} {vs : List V} (l : ks.length = ds.length) (r : RepL w ds vs) : Wok (w.cellSet k (.dT (ks.zip vs)) (.dt ks ds)) := ok.cellSet h ⟨vs, upd_same, l, r.mono (Ext.cellSet ok h)⟩
end
/-- the cell that a value names, if it is a list -/
def celL (m : Mem) : D → Option (Nat × List D)
  | .cel k => match m[k]? with
    | some (some (.lst xs)) => some (k, xs)
    | _ => none
  | _ => none
theorem celL_ok {m : Mem} {d : D} {k : Nat} {xs : List D} (h : celL m d = some (k, xs)) : d = .cel k ∧ m[k]? = some (some (.lst xs)) := by
  cases d with
  | cel j =>
    have h1 : (match m[j]? with
      | some (some (.lst xs)) => some (j, xs)
      | _ => none) = some (k, xs) := h
    split at h1
    · rename_i ys e
      cases h1
      exact ⟨rfl, e⟩
    · cases h1
  | _ => cases h
theorem Rep.celL {w : Wd} (ok : Wok w) {d : D} {v : V} {k : Nat} {xs : List D} (r : Rep w d v) (h : celL w.mem d = some (k, xs)) : v = .ref (w.ad k) ∧ w.mem[k]? = some (some (.lst xs)) ∧ ∃ vs, w.H (w.ad k) = some (.lst vs) ∧ RepL w xs vs := by
  obtain ⟨rfl, e⟩ := celL_ok h
  cases r
  exact ⟨rfl, e, ok.cell k _ e⟩

/-! ### methods -/
section
variable {X : Cx} {G : Dx} {pos p : Pos} {o e : Expr} {es : List Expr} {fo fe : FE} {fs : FA}
@[reducible] def fML (op : Mem → D → List D → R D) (fo : FE) (fs : FA) : FE := fun env m => (fo env m).bind fun d m1 => match celL m1 d with
  | some _ => (fs env m1).bind fun ds m2 => op m2 d ds
  | none => .st
/-- a method of a list that is a cell -/
theorem rd_mL {op : Mem → D → List D → R D} {r : V → List V → Hp → VK → Prop} {w : Wd} {σ : L2.St} {H : Hp} {env : Env} {Q : VK} (A : At X G w σ H env) (h : Out G w σ (PD Q) (fML op fo fs env w.mem))
    (hr : ∀ w' d ds v vs, At X G w' σ w'.H env → Rep w' d v → RepL w' ds vs → Out G w' σ (PD Q) (op w'.mem d ds) → r v vs w'.H Q) : tBM X.K "list" r (asE X G fo) (asA X G fs) σ H Q := by
  refine ⟨w, env, A, (Out.seq h).imp fun d w1 e1 ok1 h1 v rv => ?_⟩
  have A1 := A.go e1 ok1
  cases hc : celL w1.mem d with
  | none =>
    rw [hc] at h1
    exact h1.elim
  | some kx =>
    rw [hc] at h1
    obtain ⟨k, xs⟩ := kx
    obtain ⟨ev, hm, vs, hH, _⟩ := rv.celL ok1 hc
    refine ⟨by rw [ev]; exact .inl ⟨rfl, vs, SqL.of hH⟩, w1, env, A1, (Out.seq h1).imp fun ds w2 e2 ok2 h2 us ru => ?_⟩
    exact hr w2 d ds v us (A1.go e2 ok2) (rv.mono e2) ru h2
theorem rd_mL0 {op : Mem → D → List D → R D} {r : V → List V → Hp → VK → Prop} {w : Wd} {σ : L2.St} {H : Hp} {env : Env} {Q : VK} (A : At X G w σ H env) (h : Out G w σ (PD Q) (fML op fo aNil env w.mem))
    (hr : ∀ w' d v, At X G w' σ w'.H env → Rep w' d v → Out G w' σ (PD Q) (op w'.mem d []) → r v [] w'.H Q) : tBM0 X.K "list" r (asE X G fo) σ H Q := by
  refine ⟨w, env, A, (Out.seq h).imp fun d w1 e1 ok1 h1 v rv => ?_⟩
  cases hc : celL w1.mem d with
  | none =>
    rw [hc] at h1
    exact h1.elim
  | some kx =>
    rw [hc] at h1
    obtain ⟨k, xs⟩ := kx
    obtain ⟨ev, hm, vs, hH, _⟩ := rv.celL ok1 hc
    exact ⟨by rw [ev]; exact .inl ⟨rfl, vs, SqL.of hH⟩, hr w1 d v (A.go e1 ok1) rv h1⟩
def opAppend (m : Mem) (d : D) (ds : List D) : R D := match celL m d with
  | some (k, xs) => match ds with
    | [x] => if xs.length < sizeLine then .ok .non (m.set k (some (.lst (xs ++ [x])))) else .st
    | _ => .st
  | none => .st
theorem de_append {a : Expr} (ho : DE X G o fo) (ha : DA X G [a] fs) (hbase : attributeBase o "append" X.env (eval o X.env) = eval o X.env := by rfl)
    (hfew : ((backTo pos (starEach [a] X.env)).all (fun x => !x.1) && (backToKw pos (keywordEach [] X.env)).all (fun x => x.1.isSome)
      && decide (([a] : List Expr).length + ([] : List Keyword).length + (if ([] : List Keyword).isEmpty then 0 else 1) < 30)) = true := by rfl)
    (hline : (p.endLine == pos.line) = true := by rfl) (hs : starEach [a] X.env = (false, eval a X.env) :: starEach [] X.env := by rfl) (hplain : (backTo pos (starEach ([] : List Expr) X.env)).any (·.1) = false := by rfl) :
    DE X G (.Call (.Attribute o "append" p) [a] [] pos) (fML opAppend fo fs) := ⟨fun pins s σ H Q I q => by
  obtain ⟨w, env, A, h⟩ := q
  refine (pe_bm PySem.F.plainAttrs_list PySem.F.slot_list_append PySem.F.type_list_append mt_append ho ha hbase hfew hline hs hplain).run pins s σ H Q I ?_
  refine rd_mL A h fun w1 d ds v vs A1 rv rs q => ?_
  unfold opAppend at q
  cases hc : celL w1.mem d with
  | none => rw [hc] at q; exact q.elim
  | some kx =>
    obtain ⟨k, xs⟩ := kx
    rw [hc] at q
    obtain ⟨ev, hm, us, hH, ru⟩ := rv.celL A1.rel.ok hc
    match ds, rs, q with
    | [x], .cons (v := y) r .nil, q =>
      dsimp only at q
      by_cases hz : xs.length < sizeLine
      · rw [if_pos hz] at q
        refine ⟨w1.ad k, us, y, ev, rfl, hH, by rw [← ru.len]; exact hz, ?_⟩
        exact q (w1.cellSet k _ _) (Ext.cellSet A1.rel.ok hm) rfl (cellSet_lst A1.rel.ok hm (ru.snoc r)) _ .non
      · rw [if_neg hz] at q
        exact q.elim⟩
def opPopAt (m : Mem) (d : D) (ds : List D) : R D := match celL m d with
  | some (k, xs) => match ds with
    | [.int i] => if -(2 ^ 63) ≤ i ∧ i < 2 ^ 63 then match seqIndex? i xs.length with
      | some j => match xs[j]? with
        | some y => .ok y (m.set k (some (.lst (xs.eraseIdx j))))
        | none => .st
      | none => .st
      else .st
    | _ => .st
  | none => .st
theorem de_popAt {a : Expr} (ho : DE X G o fo) (ha : DA X G [a] fs) (hbase : attributeBase o "pop" X.env (eval o X.env) = eval o X.env := by rfl)
    (hfew : ((backTo pos (starEach [a] X.env)).all (fun x => !x.1) && (backToKw pos (keywordEach [] X.env)).all (fun x => x.1.isSome)
      && decide (([a] : List Expr).length + ([] : List Keyword).length + (if ([] : List Keyword).isEmpty then 0 else 1) < 30)) = true := by rfl)
    (hline : (p.endLine == pos.line) = true := by rfl) (hs : starEach [a] X.env = (false, eval a X.env) :: starEach [] X.env := by rfl) (hplain : (backTo pos (starEach ([] : List Expr) X.env)).any (·.1) = false := by rfl) :
    DE X G (.Call (.Attribute o "pop" p) [a] [] pos) (fML opPopAt fo fs) := ⟨fun pins s σ H Q I q => by
  obtain ⟨w, env, A, h⟩ := q
  refine (pe_bm PySem.F.plainAttrs_list PySem.F.slot_list_pop PySem.F.type_list_pop mt_popAt ho ha hbase hfew hline hs hplain).run pins s σ H Q I ?_
  refine rd_mL A h fun w1 d ds v vs A1 rv rs q => ?_
  unfold opPopAt at q
  cases hc : celL w1.mem d with
  | none => rw [hc] at q; exact q.elim
  | some kx =>
    obtain ⟨k, xs⟩ := kx
    rw [hc] at q
    obtain ⟨ev, hm, us, hH, ru⟩ := rv.celL A1.rel.ok hc
    match ds, rs, q with
    | [.int i], .cons .int .nil, q =>
      dsimp only at q
      by_cases hz : -(2 ^ 63) ≤ i ∧ i < 2 ^ 63
      · rw [if_pos hz] at q
        cases hj : seqIndex? i xs.length with
        | none => rw [hj] at q; exact q.elim
        | some j =>
          rw [hj] at q
          dsimp only at q
          cases hy : xs[j]? with
          | none => rw [hy] at q; exact q.elim
          | some y =>
            rw [hy] at q
            obtain ⟨z, hzv, rz⟩ := ru.get hy
            have e := Ext.cellSet (o := .lst (us.eraseIdx j)) (c' := .lst (xs.eraseIdx j)) A1.rel.ok hm
            exact ⟨w1.ad k, us, i, j, z, ev, rfl, hH, hz.1, hz.2, by rw [← ru.len]; exact hj, hzv, q (w1.cellSet k _ _) e rfl (cellSet_lst A1.rel.ok hm (ru.erase j)) _ (rz.mono e)⟩
      · rw [if_neg hz] at q
        exact q.elim⟩
/-! ### join -/
def strsD : List D → Option (List Str)
  | [] => some []
  | .str i :: r => (strsD r).map (i :: ·)
  | _ => none
theorem strsD_map : ∀ {ds : List D} {ns : List Str}, strsD ds = some ns → ds = ns.map D.str
  | [], _, h => by cases h; rfl
  | d :: ds, ns, h => by
    cases d with
    | str i =>
      have h1 : (strsD ds).map (i :: ·) = some ns := h
      cases hr : strsD ds with
      | none => rw [hr] at h1; cases h1
      | some r =>
        rw [hr] at h1
        cases h1
        rw [strsD_map hr]
        rfl
    | _ => cases h
theorem strsD_of : ∀ (ns : List Str), strsD (ns.map D.str) = some ns
  | [] => rfl
  | n :: ns => by
    show (strsD (ns.map D.str)).map (n :: ·) = _
    rw [strsD_of ns] <;> rfl
def opJoin (m : Mem) (a b : D) : R D := match a with
  | .str x => match (seqOf m b).bind strsD with
    | some ys => if (ys.map (·.length)).sum + ys.length * x.length ≤ 16777216 then .ok (.str (Txt.join x ys)) m else .st
    | none => .st
  | _ => .st
@[reducible] def fM1 (op : Mem → D → D → R D) (ok : D → Bool) (fo fe : FE) : FE := fun env m => (fo env m).bind fun d m1 => if ok d = true then (fe env m1).bind fun x m2 => op m2 d x else .st
def isStr : D → Bool
  | .str _ => true
  | _ => false
theorem isStr_ok {d : D} (h : isStr d = true) : ∃ x, d = .str x := by
  cases d with
  | str x => exact ⟨x, rfl⟩
  | _ => cases h
theorem rd_m1 {op : Mem → D → D → R D} {r : V → List V → Hp → VK → Prop} {w : Wd} {σ : L2.St} {H : Hp} {env : Env} {Q : VK} (A : At X G w σ H env) (h : Out G w σ (PD Q) (fM1 op isStr fo fe env w.mem))
    (hr : ∀ w' x d v, At X G w' σ w'.H env → Rep w' d v → Out G w' σ (PD Q) (op w'.mem (.str x) d) → r (.str x) [v] w'.H Q) : tM1 r (asE X G fo) (asE X G fe) σ H Q := by
  refine ⟨w, env, A, (Out.seq h).imp fun d w1 e1 ok1 h1 v rv => ?_⟩
  have A1 := A.go e1 ok1
  cases hs : isStr d with
  | false =>
    rw [hs] at h1
    exact h1.elim
  | true =>
    rw [hs] at h1
    obtain ⟨x, rfl⟩ := isStr_ok hs
    cases rv
    refine ⟨⟨x, rfl⟩, w1, env, A1, (Out.seq (show Out G w1 σ (PD Q) ((fe env w1.mem).bind fun z m2 => op m2 (.str x) z) from h1)).imp fun d2 w2 e2 ok2 h2 u ru => ?_⟩
    exact hr w2 x d2 u (A1.go e2 ok2) ru h2
theorem de_join (ho : DE X G o fo) (he : DE X G e fe) (hs : starEach [e] X.env = [(false, eval e X.env)] := by rfl) (hbase : attributeBase o "join" X.env (eval o X.env) = eval o X.env := by rfl) (hline : (p.endLine == pos.line) = true := by rfl) :
    DE X G (.Call (.Attribute o "join" p) [e] [] pos) (fM1 opJoin isStr fo fe) := ⟨fun pins s σ H Q I q => by
  obtain ⟨w, env, A, h⟩ := q
  refine (pe_join ho he hs hbase hline).run pins s σ H Q I (rd_m1 A h fun w1 x d v A1 rv q => ?_)
  have q : Out G w1 σ (PD Q) (match (seqOf w1.mem d).bind strsD with
    | some ys => if (ys.map (·.length)).sum + ys.length * x.length ≤ 16777216 then .ok (.str (Txt.join x ys)) w1.mem else .st
    | none => .st) := q
  cases hq : seqOf w1.mem d with
  | none => rw [hq] at q; exact q.elim
  | some xs =>
    rw [hq] at q
    cases hy : strsD xs with
    | none =>
      have q : Out G w1 σ (PD Q) (match strsD xs with
        | some ys => if (ys.map (·.length)).sum + ys.length * x.length ≤ 16777216 then .ok (.str (Txt.join x ys)) w1.mem else .st
        | none => .st) := q
      rw [hy] at q
      exact q.elim
    | some ys =>
      have q : Out G w1 σ (PD Q) (match strsD xs with
        | some ys => if (ys.map (·.length)).sum + ys.length * x.length ≤ 16777216 then .ok (.str (Txt.join x ys)) w1.mem else .st
        | none => .st) := q
      rw [hy] at q
      dsimp only at q
      by_cases hz : (ys.map (·.length)).sum + ys.length * x.length ≤ 16777216
      · rw [if_pos hz] at q
        obtain ⟨l, vs, rfl, hp, ru⟩ := rv.asseq A1.rel.ok hq
        rw [strsD_map hy] at ru
        rw [ru.strs] at hp
        exact ⟨x, l, ys, rfl, rfl, A1.K ▸ hp, hz, out_str A1 q⟩
      · rw [if_neg hz] at q
        exact q.elim⟩
/-! ### d.get(k, x) -/
@[reducible] def fGet2 (fo fe fx : FE) : FE := fun env m => (fo env m).bind fun d m1 => match dicOf m1 d with
  | none => .st
  | some _ => (fe env m1).bind fun k m2 => (fx env m2).bind fun z m3 => match dicOf m3 d with
    | none => .st
    | some c => match dicGet c k with
      | some (some y) => .ok y m3
      | some none => .ok z m3
      | none => .st
theorem DcAt.isD {w : Wd} {l : Addr} {c : Dc} (h : DcAt w l c) : IsD w.H l := by
  cases c with
  | k ks ds =>
    obtain ⟨vs, h1, _⟩ := h
    exact .inl ⟨_, .inl h1⟩
  | t ks ds =>
    obtain ⟨vs, h1, _⟩ := h
    exact .inr ⟨_, .inl h1⟩
theorem de_get2 {f : Expr} {fx : FE} (hu : X.A.units + 1 < cLine) (ho : DE X G o fo) (he : DE X G e fe) (hf : DE X G f fx) (hm : M2 X o "get" p e f pos := by exact ⟨rfl, rfl, rfl, rfl⟩) :
    DE X G (.Call (.Attribute o "get" p) [e, f] [] pos) (fGet2 fo fe fx) := ⟨fun pins s σ H Q I q => by
  obtain ⟨w, env, A, h⟩ := q
  refine (pe_dget2 hu ho he hf hm).run pins s σ H Q I ?_
  refine ⟨w, env, A, (Out.seq h).imp fun d w1 e1 ok1 h1 v rv => ?_⟩
  have A1 := A.go e1 ok1
  cases hd : dicOf w1.mem d with
  | none => rw [hd] at h1; exact h1.elim
  | some c =>
    rw [hd] at h1
    obtain ⟨l, rfl, dc⟩ := rv.asdic ok1 hd
    refine ⟨l, rfl, dc.isD, w1, env, A1, (Out.seq h1).imp fun k w2 e2 ok2 h2 y ry => ?_⟩
    have A2 := A1.go e2 ok2
    refine ⟨w2, env, A2, (Out.seq h2).imp fun z w3 e3 ok3 h3 x rx => ?_⟩
    have A3 := A2.go e3 ok3
    have rv3 := (rv.mono e2).mono e3
    cases hd3 : dicOf w3.mem d with
    | none => rw [hd3] at h3; exact h3.elim
    | some c3 =>
      rw [hd3] at h3
      dsimp only at h3
      obtain ⟨l3, el, dc3⟩ := rv3.asdic ok3 hd3
      cases el
      cases hg : dicGet c3 k with
      | none => rw [hg] at h3; exact h3.elim
      | some oz =>
        rw [hg] at h3
        obtain ⟨ov, g, cs⟩ := dget_of dc3 (ry.mono e3) hg
        refine ⟨ov, g, ?_⟩
        rcases cs with ⟨rfl, rfl⟩ | ⟨d2, v2, rfl, rfl, r2⟩
        · exact h3.now A3 rfl _ rx
        · exact h3.now A3 rfl _ r2⟩
/-! ### {} -/
@[reducible] def fDk : FE := fun _ m => .ok (.dk [] []) m
@[reducible] def fDt : FE := fun _ m => .ok (.dt [] []) m
@[reducible] def fDkC : FE := fun _ m => mkCell (.dk [] []) m
@[reducible] def fDtC : FE := fun _ m => mkCell (.dt [] []) m
theorem de_dk : DE X G (.Dict [] [] pos) fDk := ⟨fun pins s σ H Q I q => by
  obtain ⟨w, env, A, h⟩ := q
  refine pe_dnewK.run pins s σ H Q I fun l hl => ?_
  rw [← A.H] at hl ⊢
  exact h (w.put l (.dK [])) (Ext.put A.rel.ok hl) rfl (A.rel.ok.put hl) _ (.dk (vs := []) (A.rel.ok.not_lv hl) upd_same rfl .nil)⟩
theorem de_dt : DE X G (.Dict [] [] pos) fDt := ⟨fun pins s σ H Q I q => by
  obtain ⟨w, env, A, h⟩ := q
  refine pe_dnewT.run pins s σ H Q I fun l hl => ?_
  rw [← A.H] at hl ⊢
  exact h (w.put l (.dT [])) (Ext.put A.rel.ok hl) rfl (A.rel.ok.put hl) _ (.dt (vs := []) (A.rel.ok.not_lv hl) upd_same rfl .nil)⟩
theorem de_dkC : DE X G (.Dict [] [] pos) fDkC := ⟨fun pins s σ H Q I q => by
  obtain ⟨w, env, A, h⟩ := q
  refine pe_dnewK.run pins s σ H Q I fun l hl => ?_
  rw [← A.H] at hl ⊢
  refine h (w.cellNew l (.dK []) (.dk [] [])) (Ext.cellNew A.rel.ok hl) rfl (A.rel.ok.cellNew hl ⟨[], ?_, rfl, .nil⟩) _ rep_cellNew
  show upd w.H l (.dK []) (if w.mem.length = w.mem.length then l else _) = _
  rw [if_pos rfl, upd_same] <;> rfl⟩
theorem de_dtC : DE X G (.Dict [] [] pos) fDtC := ⟨fun pins s σ H Q I q => by
  obtain ⟨w, env, A, h⟩ := q
  refine pe_dnewT.run pins s σ H Q I fun l hl => ?_
  rw [← A.H] at hl ⊢
  refine h (w.cellNew l (.dT []) (.dt [] [])) (Ext.cellNew A.rel.ok hl) rfl (A.rel.ok.cellNew hl ⟨[], ?_, rfl, .nil⟩) _ rep_cellNew
  show upd w.H l (.dT []) (if w.mem.length = w.mem.length then l else _) = _
  rw [if_pos rfl, upd_same] <;> rfl⟩
end
end DL
/-! DL7: statements, targets, loops, comprehensions. -/
namespace DL
open PySem PySem.Spec PyProof.Rows L2

/-! ### small statements -/
section
variable {X : Cx} {G : Dx} {pos pos' : Pos} {e c : Expr} {fe : FE} {t : FT} {f g : FS} {ss tt : List Stmt}
@[reducible] def fExpr (fe : FE) : FS := fun env m => (fe env m).bindS env fun _ m1 => .nx env m1
theorem ds_expr (he : DE X G e fe) (hs : swapsWith e none pos.line X.env = pure false := by rfl) : DSt X G (.Expr e pos) (fExpr fe) := ⟨fun pins s σ H E I q => by
  obtain ⟨w, env, A, h⟩ := q
  refine (ps_expr he hs).run pins s σ H E I ?_
  refine ⟨w, env, A, (Out.seqS h A.rel).imp fun d w1 e1 ok1 h1 v rv => ?_⟩
  exact h1 w1 σ (Ext.refl w1) rfl (A.rel.mono e1 ok1)⟩
@[reducible] def fRet (fe : FE) : FS := fun env m => (fe env m).bindS env fun d m1 => .rt d m1
theorem ds_ret (he : DE X G e fe) : DSt X G (.Return (some e) pos) (fRet fe) := ⟨fun pins s σ H E I q => by
  obtain ⟨w, env, A, h⟩ := q
  refine (ps_ret he).run pins s σ H E I ?_
  refine ⟨w, env, A, (Out.seqS h A.rel).imp fun d w1 e1 ok1 h1 v rv => ?_⟩
  exact h1 w1 v (Ext.refl w1) rfl ok1 rv⟩
def fRetN : FS := fun _ m => .rt .non m
theorem ds_retn : DSt X G (.Return none pos) fRetN := ⟨fun pins s σ H E I q => by
  obtain ⟨w, env, A, h⟩ := q
  refine ps_retN.run pins s σ H E I ?_
  have z := h w .non (Ext.refl w) rfl A.rel.ok .non
  rw [A.H] at z
  exact z⟩
theorem ds_pass : DSt X G (.Pass pos) fNext := ⟨fun pins s σ H E I q => by
  obtain ⟨w, env, A, h⟩ := q
  refine ps_pass.run pins s σ H E I ?_
  have z := h w σ (Ext.refl w) rfl A.rel
  rw [A.H] at z
  exact z⟩
def fBreak : FS := fun env m => .bk env m
def fCont : FS := fun env m => .ct env m
theorem ds_break : DSt X G (.Break pos) fBreak := ⟨fun pins s σ H E I q => by
  obtain ⟨w, env, A, h⟩ := q
  refine ps_break.run pins s σ H E I ?_
  have z := h w σ (Ext.refl w) rfl A.rel
  rw [A.H] at z
  exact z⟩
theorem ds_cont : DSt X G (.Continue pos) fCont := ⟨fun pins s σ H E I q => by
  obtain ⟨w, env, A, h⟩ := q
  refine ps_continue.run pins s σ H E I ?_
  have z := h w σ (Ext.refl w) rfl A.rel
  rw [A.H] at z
  exact z⟩
@[reducible] def fIfS (t : FT) (f g : FS) : FS := fun env m => (t env m).bindS env fun b m1 => if b = true then f env m1 else g env m1
theorem ds_if (hc : DT X G c t) (ha : DSs X G ss f) (hb : DSs X G tt g) : DSt X G (.If c ss tt pos) (fIfS t f g) := ⟨fun pins s σ H E I q => by
  obtain ⟨w, env, A, h⟩ := q
  refine (ps_if hc ha hb).run pins s σ H E I ?_
  refine ⟨w, env, A, (Out.seqS h A.rel).imp fun b w1 e1 ok1 h1 => ?_⟩
  cases b with
  | true => exact ⟨w1, env, A.go e1 ok1, h1⟩
  | false => exact ⟨w1, env, A.go e1 ok1, h1⟩⟩
end

/-! ### targets -/
abbrev TgD := D → Env → Mem → Option Env
abbrev TgsD := List D → Env → Mem → Option Env
theorem wipe_nodup {σ : L2.St} {i : Nat} {x : Option V} : ∀ {vs : List Nat}, i ∈ vs → L2.wipe (σ.set i x) vs = L2.wipe σ vs
  | [], h => by cases h
  | v :: vs, h => by
    show (L2.wipe (σ.set i x) vs).set v none = (L2.wipe σ vs).set v none
    by_cases hi : i ∈ vs
    · rw [wipe_nodup hi]
    · have hv : i = v := by
        rcases List.mem_cons.mp h with q | q
        · exact q
        · exact absurd q hi
      subst hv
      have key : ∀ (vs : List Nat), i ∉ vs → (L2.wipe (σ.set i x) vs).set i none = (L2.wipe σ vs).set i none := by
        intro vs
        induction vs with
        | nil =>
          intro _
          show (σ.set i x).set i none = σ.set i none
          rw [List.set_set]
        | cons u us ih =>
          intro hu
          have hne : i ≠ u := fun z => hu (by rw [z]; exact List.mem_cons_self)
          have hus : i ∉ us := fun z => hu (List.mem_cons_of_mem _ z)
          show ((L2.wipe (σ.set i x) us).set u none).set i none = ((L2.wipe σ us).set u none).set i none
          rw [List.set_comm _ _ (Ne.symm hne), ih hus, List.set_comm _ _ hne]
      exact key vs hi
theorem wipe_wipe {σ : L2.St} (us : List Nat) : ∀ {vs : List Nat}, (∀ i ∈ us, i ∈ vs) → L2.wipe (L2.wipe σ us) vs = L2.wipe σ vs := by
  induction us with
  | nil => intro vs _; rfl
  | cons u us ih =>
    intro vs h
    show L2.wipe ((L2.wipe σ us).set u none) vs = _
    rw [wipe_nodup (h u List.mem_cons_self)]
    exact ih fun i hi => h i (List.mem_cons_of_mem _ hi)
/-- a target that stores slots ts alone -/
def asG (X : Cx) (G : Dx) (tg : TgD) (ts : List Nat) : TG := fun v σ H Q => ∃ w env d env', At X G w σ H env ∧ Rep w d v ∧ tg d env w.mem = some env' ∧
  ∀ σ', Rel w σ' env' → (∀ vs, (∀ t ∈ ts, t ∈ vs) → L2.wipe σ' vs = L2.wipe σ vs) → Q σ' w.H
def asGs (X : Cx) (G : Dx) (tg : TgsD) (ts : List Nat) : TGs := fun us σ H Q => ∃ w env ds env', At X G w σ H env ∧ RepL w ds us ∧ tg ds env w.mem = some env' ∧
  ∀ σ', Rel w σ' env' → (∀ vs, (∀ t ∈ ts, t ∈ vs) → L2.wipe σ' vs = L2.wipe σ vs) → Q σ' w.H
abbrev DG (X : Cx) (G : Dx) (e : Expr) (tg : TgD) (ts : List Nat) : Prop := PG X e (asG X G tg ts)
abbrev DGs (X : Cx) (G : Dx) (es : List Expr) (tg : TgsD) (ts : List Nat) : Prop := PGs X es (asGs X G tg ts)
section
variable {X : Cx} {G : Dx} {pos pos' : Pos} {e : Expr} {es : List Expr} {tg : TgD} {tgs : TgsD} {ts us : List Nat}
@[reducible] def tName (i : Nat) : TgD := fun d env _ => some (env.set i (some d))
theorem dg_name {i : Nat} {x : Str} (hN : X.N.Nodup) (hi : X.N[i]? = some x := by rfl) (hx : Loc X.env.scope x := by first | exact Or.inl rfl | exact Or.inr rfl) (hf : X.fn x = true ∨ X.env.scope.names.lookup x = some .local := by first | exact .inl rfl | exact .inr rfl) : DG X G (.Name x pos) (tName i) [i] := ⟨fun pins s σ H v u Q I r h => by
  obtain ⟨w, env, d, env', A, rv, ht, q⟩ := h
  cases ht
  refine (pg_name hN hi hx hf).run pins s σ H v u Q I r ?_
  have z := q (σ.set i (some v)) (A.rel.set i rv) fun vs hv => wipe_nodup (hv i List.mem_cons_self)
  rw [A.H] at z
  exact z⟩
@[reducible] def tNilG : TgsD := fun ds env _ => match ds with
  | [] => some env
  | _ => none
@[reducible] def tConsG (t : TgD) (u : TgsD) : TgsD := fun ds env m => match ds with
  | d :: r => (t d env m).bind fun e1 => u r e1 m
  | [] => none
theorem dgs_nil : DGs X G [] tNilG [] := ⟨fun pins s σ H vs us Q I r h => by
  obtain ⟨w, env, ds, env', A, rv, ht, q⟩ := h
  refine pgs_nil.run pins s σ H vs us Q I r ?_
  cases rv with
  | nil =>
    cases ht
    have z := q σ A.rel fun _ _ => rfl
    rw [A.H] at z
    exact ⟨rfl, z⟩
  | cons _ _ => cases ht⟩
theorem dgs_cons (h1 : DG X G e tg ts) (h2 : DGs X G es tgs us) (hs : (assignEach (e :: es) X.env).map (·.2) = assign e X.env :: (assignEach es X.env).map (·.2) := by rfl) : DGs X G (e :: es) (tConsG tg tgs) (ts ++ us) := ⟨fun pins s σ H vs vus Q I r h => by
  obtain ⟨w, env, ds, env', A, rv, ht, q⟩ := h
  refine (pgs_cons h1 h2 hs).run pins s σ H vs vus Q I r ?_
  cases rv with
  | nil => cases ht
  | @cons d v ds vs rd rr =>
    have ht : (tg d env w.mem).bind (fun e1 => tgs ds e1 w.mem) = some env' := ht
    cases h3 : tg d env w.mem with
    | none => rw [h3] at ht; cases ht
    | some e1 =>
      rw [h3] at ht
      refine ⟨v, vs, rfl, w, env, d, e1, A, rd, h3, fun σ1 r1 w1 => ?_⟩
      refine ⟨w, e1, ds, env', ⟨A.K, A.cl, rfl, r1, A.xi⟩, rr, ht, fun σ2 r2 w2 => ?_⟩
      exact q σ2 r2 fun zs hz => (w2 zs fun t ht => hz t (List.mem_append_right _ ht)).trans (w1 zs fun t ht => hz t (List.mem_append_left _ ht))⟩
@[reducible] def tTupG (n : Nat) (u : TgsD) : TgD := fun d env m => match d with
  | .tup xs => if xs.length = n then u xs env m else none
  | .kt xs => if xs.length = n then u xs env m else none
  | _ => none
theorem dg_tup {k n : Nat} (hc : X.calm = true) (h : DGs X G es tgs ts) (hn : (assignEach es X.env).length = n := by rfl) (hst : (assignEach es X.env).findIdx? (·.1) = none := by rfl) : DG X G (.Tuple es k pos) (tTupG n tgs) ts := ⟨fun pins s σ H v u Q I r h0 => by
  obtain ⟨w, env, d, env', A, rv, ht, q⟩ := h0
  refine (pg_tup hc h hn hst).run pins s σ H v u Q I r ?_
  have fin : ∀ (p : Addr) (xs : List D) (vs : List V), SqT w.K w.H p vs → RepL w xs vs → (if xs.length = n then tgs xs env w.mem else none) = some env' → v = .ref p → gTup X.K n (asGs X G tgs ts) v σ H Q := fun p xs vs hp rr ht ev => by
    by_cases hl : xs.length = n
    · rw [if_pos hl] at ht
      rw [← A.H]
      exact ⟨p, vs, ev, A.K ▸ hp, by rw [← rr.len]; exact hl, w, env, xs, env', A.self', rr, ht, q⟩
    · rw [if_neg hl] at ht
      cases ht
  cases rv with
  | tup hp rr => exact fin _ _ _ (SqT.of hp) rr ht rfl
  | kt hp rr => exact fin _ _ _ hp rr ht rfl
  | _ => cases ht⟩
end
end DL
/-! DL8: stores, what is walked, for, while, comprehensions. -/
namespace DL
open PySem PySem.Spec PyProof.Rows L2

/-! ### assignments -/
section
variable {X : Cx} {G : Dx} {pos pos' : Pos} {e o i : Expr} {es : List Expr} {fe fo fi : FE} {tg : TgD} {ts : List Nat}
@[reducible] def fAsg (fe : FE) (tg : TgD) : FS := fun env m => (fe env m).bindS env fun d m1 => match tg d env m1 with
  | some env' => .nx env' m1
  | none => .st
theorem asg_rd {w : Wd} {σ : L2.St} {env : Env} {E : Ends} {d : D} {v : V} (A : At X G w σ w.H env) (rv : Rep w d v) (h : OutS G w E (match tg d env w.mem with
    | some env' => .nx env' w.mem
    | none => .st)) : asG X G tg ts v σ w.H E.nx := by
  cases ht : tg d env w.mem with
  | none =>
    rw [ht] at h
    exact h.elim
  | some env' =>
    rw [ht] at h
    exact ⟨w, env, d, env', A, rv, ht, fun σ' r _ => h w σ' (Ext.refl w) rfl r⟩
theorem ds_asg {t : Expr} (he : DE X G e fe) (hg : DG X G t tg ts) (hs : swapsWithSole [t] e pos.line X.env = pure false := by rfl) (hw : swappedStores [t] e X.env = pure none := by rfl)
    (h1 : (assignEach [t] X.env).map (·.2) = [assign t X.env] := by rfl) : DSt X G (.Assign [t] e pos) (fAsg fe tg) := ⟨fun pins s σ H E I q => by
  obtain ⟨w, env, A, h⟩ := q
  refine (ps_asg he hg hs hw h1).run pins s σ H E I ?_
  refine ⟨w, env, A, (Out.seqS h A.rel).imp fun d w1 e1 ok1 h1 v rv => ?_⟩
  exact asg_rd (A.go e1 ok1) rv h1⟩
@[reducible] def fSet (i : Nat) (fe : FE) : FS := fun env m => (fe env m).bindS env fun d m1 => .nx (env.set i (some d)) m1
theorem ds_set {i : Nat} {x : Str} (hN : X.N.Nodup) (he : DE X G e fe) (hi : X.N[i]? = some x := by rfl) (hx : Loc X.env.scope x := by first | exact Or.inl rfl | exact Or.inr rfl) (hs : swapsWith e (some (.Name x pos')) pos.line X.env = pure false := by rfl) (hf : X.fn x = true ∨ X.env.scope.names.lookup x = some .local := by first | exact .inl rfl | exact .inr rfl) :
    DSt X G (.Assign [.Name x pos'] e pos) (fSet i fe) := ⟨fun pins s σ H E I q => by
  obtain ⟨w, env, A, h⟩ := q
  refine (ps_set hN hi hx he hs hf).run pins s σ H E I ?_
  refine ⟨w, env, A, (Out.seqS h A.rel).imp fun d w1 e1 ok1 h1 v rv => ?_⟩
  exact h1 w1 _ (Ext.refl w1) rfl ((A.rel.mono e1 ok1).set i rv)⟩
/-- a, b = x, y -/
@[reducible] def fPar (i j : Nat) (fa fb : FE) : FS := fun env m => (fa env m).bindS env fun a m1 => (fb env m1).bindS env fun b m2 => .nx ((env.set i (some a)).set j (some b)) m2
theorem ds_par {i j : Nat} {x y : Str} {a b : Expr} {fa fb : FE} {px py pt : Pos} {kt k2 : Nat} {pt2 : Pos} (hc : X.calm = true) (hN : X.N.Nodup) (ha : DE X G a fa) (hb : DE X G b fb) (hi : X.N[i]? = some x := by rfl) (hj : X.N[j]? = some y := by rfl) (hij : i ≠ j := by decide)
    (hx : X.env.scope.names.lookup x = some .local := by rfl) (hy : X.env.scope.names.lookup y = some .local := by rfl) (h1 : starEach [a, b] X.env = (false, eval a X.env) :: starEach [b] X.env := by rfl) (h2 : starEach [b] X.env = (false, eval b X.env) :: starEach [] X.env := by rfl)
    (hw : swappedStores [.Tuple [.Name x px, .Name y py] kt pt] (.Tuple [a, b] k2 pt2) X.env = pure (some [x, y]) := by rfl)
    (hs : swapsWithSole [.Tuple [.Name x px, .Name y py] kt pt] (.Tuple [a, b] k2 pt2) pos.line X.env = pure false := by rfl) :
    DSt X G (.Assign [.Tuple [.Name x px, .Name y py] kt pt] (.Tuple [a, b] k2 pt2) pos) (fPar i j fa fb) := ⟨fun pins s σ H E I q => by
  obtain ⟨w, env, A, h⟩ := q
  refine (ps_par hc hN hi hj hij hx hy (pa_cons ha (pa_cons hb pa_nil h2) h1) hw hs).run pins s σ H E I ?_
  refine ⟨w, env, A, (Out.seqS h A.rel).imp fun d w1 e1 ok1 h1 v rv => ?_⟩
  have A1 := A.go e1 ok1
  refine ⟨w1, env, A1, (Out.seqS h1 A1.rel).imp fun d2 w2 e2 ok2 h2 u ru => ?_⟩
  exact ⟨v, u, rfl, h2 w2 _ (Ext.refl w2) rfl (((A1.rel.mono e2 ok2).set i (rv.mono e2)).set j ru)⟩⟩
def hasK {κ : Type} [DecidableEq κ] (ks : List κ) (q : κ) : Bool := ks.any fun x => decide (x = q)
theorem hasK_ok {κ : Type} [DecidableEq κ] {ks : List κ} {q : κ} : hasK ks q = true ↔ q ∈ ks := by
  unfold hasK
  simp
/-- o[i] = e, o a list or a dict that is a cell -/
def setD (m : Mem) (d k y : D) : Option Mem := match d with
  | .cel c => match m[c]? with
    | some (some (.lst xs)) => match k with
      | .int i => (ixN xs.length i).map fun j => m.set c (some (.lst (xs.set j y)))
      | _ => none
    | some (some (.dk ks ds)) => match keyD k with
      | some q => if (ks.zip ds).length < sizeLine then some (m.set c (some (if hasK ks q then .dk ks ((ks.zip ds).map fun p => if p.1 = q then y else p.2) else .dk (ks ++ [q]) (ds ++ [y])))) else none
      | none => none
    | some (some (.dt ks ds)) => match k with
      | .tup xs => match keysD xs with
        | some q => if (ks.zip ds).length < sizeLine then some (m.set c (some (if hasK ks q then .dt ks ((ks.zip ds).map fun p => if p.1 = q then y else p.2) else .dt (ks ++ [q]) (ds ++ [y])))) else none
        | none => none
      | _ => none
    | _ => none
  | _ => none
@[reducible] def fStore (fo fi fe : FE) : FS := fun env m => (fe env m).bindS env fun y m1 => (fo env m1).bindS env fun d m2 => (fi env m2).bindS env fun k m3 => match setD m3 d k y with
  | some m4 => .nx env m4
  | none => .st
theorem zip_put {κ : Type} [DecidableEq κ] {w : Wd} {q : κ} {y : D} {v : V} (ry : Rep w y v) : ∀ {ks : List κ} {ds : List D} {vs : List V}, ks.length = ds.length → RepL w ds vs →
    (q ∈ ks → ∃ us, putK (ks.zip vs) q v = ks.zip us ∧ ks.length = ((ks.zip ds).map fun p => if p.1 = q then y else p.2).length ∧ RepL w ((ks.zip ds).map fun p => if p.1 = q then y else p.2) us) ∧
    (q ∉ ks → putK (ks.zip vs) q v = (ks ++ [q]).zip (vs ++ [v]) ∧ (ks ++ [q]).length = (ds ++ [y]).length ∧ RepL w (ds ++ [y]) (vs ++ [v])) := by
  intro ks ds vs l r
  have anyk : ∀ (ks : List κ) (vs : List V), ks.length = vs.length → ((ks.zip vs).any fun kv => decide (kv.1 = q)) = decide (q ∈ ks) := by
    intro ks
    induction ks with
    | nil => intro vs _; simp
    | cons k ks ih =>
      intro vs hl
      cases vs with
      | nil => simp at hl
      | cons v vs =>
        rw [List.zip_cons_cons, List.any_cons, ih vs (by simpa using hl)]
        by_cases h : k = q
        · simp [h]
        · have : ¬ q = k := fun z => h z.symm
          simp [h, this]
  have mapk : ∀ (ks : List κ) (ds : List D) (vs : List V), ks.length = ds.length → RepL w ds vs → ∃ us, (ks.zip vs).map (fun kv => if kv.1 = q then (kv.1, v) else kv) = ks.zip us ∧ ks.length = ((ks.zip ds).map fun p => if p.1 = q then y else p.2).length ∧ RepL w ((ks.zip ds).map fun p => if p.1 = q then y else p.2) us := by
    intro ks
    induction ks with
    | nil => intro ds vs _ _; exact ⟨[], by simp, by simp, by simpa using RepL.nil⟩
    | cons k ks ih =>
      intro ds vs hl r
      cases r with
      | nil => simp at hl
      | @cons d u ds vs rd rr =>
        obtain ⟨us, h1, h2, h3⟩ := ih ds vs (by simpa using hl) rr
        by_cases h : k = q
        · refine ⟨v :: us, ?_, ?_, ?_⟩
          · rw [List.zip_cons_cons, List.map_cons, List.zip_cons_cons, h1]
            simp [h]
          · rw [List.zip_cons_cons, List.map_cons, List.length_cons, List.length_cons, h2]
          · rw [List.zip_cons_cons, List.map_cons]
            simp only [h, if_true]
            exact .cons ry h3
        · refine ⟨u :: us, ?_, ?_, ?_⟩
          · rw [List.zip_cons_cons, List.map_cons, List.zip_cons_cons, h1]
            simp [h]
          · rw [List.zip_cons_cons, List.map_cons, List.length_cons, List.length_cons, h2]
          · rw [List.zip_cons_cons, List.map_cons]
            simp only [h, if_false]
            exact .cons rd h3
  have hlv : ks.length = vs.length := by rw [l, r.len]
  refine ⟨fun h => ?_, fun h => ?_⟩
  · obtain ⟨us, h1, h2, h3⟩ := mapk ks ds vs l r
    refine ⟨us, ?_, h2, h3⟩
    unfold putK
    rw [anyk ks vs hlv, if_pos (decide_eq_true h)]
    exact h1
  · refine ⟨?_, by rw [List.length_append, List.length_append, l] <;> rfl, r.snoc ry⟩
    unfold putK
    rw [anyk ks vs hlv, if_neg (by simpa using h), List.zip_append hlv]
    rfl
theorem ds_store (hu : X.A.units + 1 < cLine) (ho : DE X G o fo) (hi : DE X G i fi) (he : DE X G e fe) (h1 : (assignEach [Expr.Subscript o i pos'] X.env).map (·.2) = [assign (.Subscript o i pos') X.env] := by rfl)
    (ha : ∀ v, assign (.Subscript o i pos') X.env v = (do
      let ov ← holding [v] (eval o X.env)
      let iv ← holding [v, ov] (eval i X.env)
      standAt pos'
      holding [v, ov, iv] (setItem ov iv v)
      release [v, ov, iv] []) := by intro _; rfl)
    (hs : swapsWithSole [.Subscript o i pos'] e pos.line X.env = pure false := by rfl) (hw : swappedStores [.Subscript o i pos'] e X.env = pure none := by rfl) (hs2 : swapsWith e (some (.Subscript o i pos')) pos.line X.env = pure false := by rfl) :
    DSt X G (.Assign [.Subscript o i pos'] e pos) (fStore fo fi fe) := ⟨fun pins s σ H E I q => by
  obtain ⟨w, env, A, h⟩ := q
  -- the reading of the three parts, whatever the rule
  have rd : ∀ {α : V → V → V → Hp → Prop}, (∀ m1 y m2 d m3 k, fe env w.mem = .ok y m1 → fo env m1 = .ok d m2 → fi env m2 = .ok k m3 → ∀ w', w'.mem = m3 → At X G w' σ w'.H env → ∀ yv dv kv, Rep w' y yv → Rep w' d dv → Rep w' k kv → OutS G w' E (match setD m3 d k y with
      | some m4 => .nx env m4
      | none => .st) → α yv dv kv w'.H) → asE X G fe σ H fun yv H1 => asE X G fo σ H1 fun dv H2 => asE X G fi σ H2 fun kv H3 => α yv dv kv H3 := by
    intro α hα
    refine ⟨w, env, A, ?_⟩
    have h0 := Out.seqS h A.rel
    cases ey : fe env w.mem with
    | ex c fs ds m =>
      rw [ey] at h0
      exact h0
    | st =>
      rw [ey] at h0
      exact h0.elim
    | ok y m1 =>
      rw [ey] at h0
      intro w1 e1 hm1 ok1 yv ry
      have A1 := A.go e1 ok1
      have h1 := h0 w1 e1 hm1 ok1
      refine ⟨w1, env, A1, ?_⟩
      have h1b := Out.seqS h1 A1.rel
      rw [hm1] at h1b ⊢
      cases ed : fo env m1 with
      | ex c fs ds m =>
        rw [ed] at h1b
        exact h1b
      | st =>
        rw [ed] at h1b
        exact h1b.elim
      | ok d m2 =>
        rw [ed] at h1b
        intro w2 e2 hm2 ok2 dv rd
        have A2 := A1.go e2 ok2
        have h2 := h1b w2 e2 hm2 ok2
        refine ⟨w2, env, A2, ?_⟩
        have h2b := Out.seqS h2 A2.rel
        rw [hm2] at h2b ⊢
        cases ek : fi env m2 with
        | ex c fs ds m =>
          rw [ek] at h2b
          exact h2b
        | st =>
          rw [ek] at h2b
          exact h2b.elim
        | ok k m3 =>
          rw [ek] at h2b
          intro w3 e3 hm3 ok3 kv rk
          have h3 : OutS G w3 E (match setD w3.mem d k y with
            | some m4 => .nx env m4
            | none => .st) := h2b w3 e3 hm3 ok3
          rw [hm3] at h3
          exact hα m1 y m2 d m3 k ey ed ek w3 hm3 (A2.go e3 ok3) yv dv kv (ry.mono (e2.trans e3)) (rd.mono e3) rk h3
  -- which rule: by what the cell holds
  by_cases hl : ∃ m1 y m2 d m3 c xs, fe env w.mem = .ok y m1 ∧ fo env m1 = .ok d m2 ∧ (∃ k, fi env m2 = .ok k m3) ∧ d = .cel c ∧ m3[c]? = some (some (.lst xs))
  · obtain ⟨m1, y, m2, d, m3, c, xs, g1, g2, ⟨k, g3⟩, rfl, g5⟩ := hl
    refine (ps_asg he (pg_sub ho hi set_list ha) hs hw h1).run pins s σ H E I ?_
    refine rd (α := fun yv dv kv H3 => rSetL dv kv yv H3 fun H4 => E.nx σ H4) fun m1' y' m2' d' m3' k' j1 j2 j3 w' hm A' yv dv kv ry rdd rk hh => ?_
    rw [g1] at j1
    cases j1
    rw [g2] at j2
    cases j2
    rw [g3] at j3
    cases j3
    subst hm
    unfold setD at hh
    dsimp only at hh
    rw [g5] at hh
    cases rk with
    | @int z =>
      dsimp only at hh
      cases hx : ixN xs.length z with
      | none => rw [hx] at hh; exact hh.elim
      | some j =>
        rw [hx] at hh
        obtain ⟨ev, hm, vs, hH, ru⟩ := rdd.celL A'.rel.ok (show celL w'.mem (.cel c) = some (c, xs) by show (match w'.mem[c]? with | some (some (.lst xs)) => some (c, xs) | _ => none) = _; rw [g5])
        have e' := Ext.cellSet (o := .lst (vs.set j yv)) (c' := .lst (xs.set j y)) A'.rel.ok hm
        have ok' := cellSet_lst A'.rel.ok hm (ru.set ry j)
        exact ⟨w'.ad c, vs, z, j, ev, rfl, hH, by rw [← ru.len]; exact hx, hh (w'.cellSet c _ _) σ e' rfl (A'.rel.mono e' ok')⟩
    | _ => exact hh.elim
  · refine (ps_dput hu ho hi he hs2).run pins s σ H E I ?_
    refine rd (α := fun yv dv kv H3 => ∃ a H4, dv = .ref a ∧ DPut H3 a kv yv H4 ∧ E.nx σ H4) fun m1 y m2 d m3 k g1 g2 g3 w' hm A' yv dv kv ry rdd rk hh => ?_
    subst hm
    unfold setD at hh
    cases d with
    | cel c =>
      dsimp only at hh
      cases hc : w'.mem[c]? with
      | none => rw [hc] at hh; exact hh.elim
      | some oc =>
        cases oc with
        | none => rw [hc] at hh; exact hh.elim
        | some ct =>
          rw [hc] at hh
          cases rdd
          cases ct with
          | lst xs => exact absurd ⟨m1, y, m2, .cel c, w'.mem, c, xs, g1, g2, ⟨k, g3⟩, rfl, hc⟩ hl
          | ins a b d => exact hh.elim
          | dk ks ds =>
            dsimp only at hh
            cases hk : keyD k with
            | none => rw [hk] at hh; exact hh.elim
            | some q =>
              rw [hk] at hh
              dsimp only at hh
              by_cases hz : (ks.zip ds).length < sizeLine
              · rw [if_pos hz] at hh
                obtain ⟨vs, hH, l, r⟩ := A'.rel.ok.cell c _ hc
                have ek := keyD_ok rk hk
                obtain ⟨z1, z2⟩ := zip_put (q := q) ry l r
                by_cases hq : hasK ks q = true
                · rw [if_pos hq] at hh
                  obtain ⟨us, p1, p2, p3⟩ := z1 (hasK_ok.1 hq)
                  refine ⟨w'.ad c, _, rfl, by rw [ek]; exact DPut.k hH (by rw [zip_len r]; exact hz), ?_⟩
                  rw [p1]
                  have e' := Ext.cellSet (o := .dK (ks.zip us)) (c' := .dk ks ((ks.zip ds).map fun p => if p.1 = q then y else p.2)) A'.rel.ok hc
                  exact hh (w'.cellSet c _ _) σ e' rfl (A'.rel.mono e' (cellSet_dk A'.rel.ok hc p2 p3))
                · rw [if_neg hq] at hh
                  obtain ⟨p1, p2, p3⟩ := z2 (fun z => hq (hasK_ok.2 z))
                  refine ⟨w'.ad c, _, rfl, by rw [ek]; exact DPut.k hH (by rw [zip_len r]; exact hz), ?_⟩
                  rw [p1]
                  have e' := Ext.cellSet (o := .dK ((ks ++ [q]).zip (vs ++ [yv]))) (c' := .dk (ks ++ [q]) (ds ++ [y])) A'.rel.ok hc
                  exact hh (w'.cellSet c _ _) σ e' rfl (A'.rel.mono e' (cellSet_dk A'.rel.ok hc p2 p3))
              · rw [if_neg hz] at hh
                exact hh.elim
          | dt ks ds =>
            dsimp only at hh
            cases rk with
            | @tup pk xs us hpk rus =>
              dsimp only at hh
              cases hk : keysD xs with
              | none => rw [hk] at hh; exact hh.elim
              | some q =>
                rw [hk] at hh
                dsimp only at hh
                by_cases hz : (ks.zip ds).length < sizeLine
                · rw [if_pos hz] at hh
                  obtain ⟨vs, hH, l, r⟩ := A'.rel.ok.cell c _ hc
                  have ek := keysD_ok rus hk
                  rw [ek] at hpk
                  obtain ⟨z1, z2⟩ := zip_put (q := q) ry l r
                  by_cases hq : hasK ks q = true
                  · rw [if_pos hq] at hh
                    obtain ⟨us, p1, p2, p3⟩ := z1 (hasK_ok.1 hq)
                    refine ⟨w'.ad c, _, rfl, DPut.t hH hpk (by rw [zip_len r]; exact hz), ?_⟩
                    rw [p1]
                    have e' := Ext.cellSet (o := .dT (ks.zip us)) (c' := .dt ks ((ks.zip ds).map fun p => if p.1 = q then y else p.2)) A'.rel.ok hc
                    exact hh (w'.cellSet c _ _) σ e' rfl (A'.rel.mono e' (cellSet_dt A'.rel.ok hc p2 p3))
                  · rw [if_neg hq] at hh
                    obtain ⟨p1, p2, p3⟩ := z2 (fun z => hq (hasK_ok.2 z))
                    refine ⟨w'.ad c, _, rfl, DPut.t hH hpk (by rw [zip_len r]; exact hz), ?_⟩
                    rw [p1]
                    have e' := Ext.cellSet (o := .dT ((ks ++ [q]).zip (vs ++ [yv]))) (c' := .dt (ks ++ [q]) (ds ++ [y])) A'.rel.ok hc
                    exact hh (w'.cellSet c _ _) σ e' rfl (A'.rel.mono e' (cellSet_dt A'.rel.ok hc p2 p3))
                · rw [if_neg hz] at hh
                  exact hh.elim
            | _ => exact hh.elim
    | _ => exact hh.elim⟩
end
end DL
/-! DL9: what is walked; for, while. -/
namespace DL
open PySem PySem.Spec PyProof.Rows L2

/-! ### what is walked, in plain data -/
inductive Src where
  | its (ds : List D) | cel (c : Nat) | enm (s : Src) | zp (a b : Src)
def pairsFrom : Nat → List D → List D
  | _, [] => []
  | i, d :: ds => .tup [.int (i : Nat), d] :: pairsFrom (i + 1) ds
def zipD : List D → List D → List D
  | a :: as, b :: bs => .tup [a, b] :: zipD as bs
  | _, _ => []
def Src.items (m : Mem) : Src → Option (List D)
  | .its ds => some ds
  | .cel c => match m[c]? with
    | some (some (.lst xs)) => some xs
    | _ => none
  | .enm s => (s.items m).map (pairsFrom 0)
  | .zp a b => match a.items m, b.items m with
    | some x, some y => some (zipD x y)
    | _, _ => none
def chars (x : Str) : List D := x.cps.toList.map fun c => .str ⟨#[c]⟩
def srcOf : D → Option Src
  | .lst xs => some (.its xs)
  | .tup xs => some (.its xs)
  | .kt xs => some (.its xs)
  | .fl ns => some (.its (ns.map D.int))
  | .str x => some (.its (chars x))
  | .cel c => some (.cel c)
  | _ => none
theorem pairsFrom_get : ∀ (ds : List D) (k i : Nat), (pairsFrom k ds)[i]? = ds[i]?.map fun d => .tup [.int ((k + i : Nat) : Int), d]
  | [], _, _ => by simp [pairsFrom]
  | d :: ds, k, 0 => by simp [pairsFrom]
  | d :: ds, k, i + 1 => by
    have h := pairsFrom_get ds (k + 1) i
    have e : k + 1 + i = k + (i + 1) := by omega
    rw [e] at h
    simpa [pairsFrom] using h
theorem pairsFrom_len : ∀ (ds : List D) (k : Nat), (pairsFrom k ds).length = ds.length
  | [], _ => rfl
  | d :: ds, k => by rw [pairsFrom, List.length_cons, List.length_cons, pairsFrom_len ds (k + 1)]
theorem zipD_get : ∀ (as bs : List D) (i : Nat) (d : D), (zipD as bs)[i]? = some d → ∃ a b, as[i]? = some a ∧ bs[i]? = some b ∧ d = .tup [a, b]
  | [], _, _, _, h => by simp [zipD] at h
  | a :: as, [], _, _, h => by simp [zipD] at h
  | a :: as, b :: bs, 0, d, h => ⟨a, b, by simp, by simp, by simpa [zipD] using h.symm⟩
  | a :: as, b :: bs, i + 1, d, h => by
    obtain ⟨x, y, h1, h2, h3⟩ := zipD_get as bs i d (by simpa [zipD] using h)
    exact ⟨x, y, by simpa using h1, by simpa using h2, h3⟩
theorem zipD_len : ∀ as bs : List D, (zipD as bs).length = min as.length bs.length
  | [], bs => by simp [zipD]
  | a :: as, [] => by simp [zipD]
  | a :: as, b :: bs => by rw [zipD, List.length_cons, zipD_len as bs, List.length_cons, List.length_cons]; omega

/-! ### the same in values: a list, a tuple, a text -/
inductive Bs where
  | l (a : Addr) | t (a : Addr) | s (x : Str) (k : Tok)
def Bs.val : Bs → Value
  | .l a => .ref a
  | .t a => .ref a
  | .s x k => .str x k
def Bs.obj : Bs → Obj
  | .l a => { cls := .type "list_iterator", data := .fields #[.ref a, .int 0 0] }
  | .t a => { cls := .type "tuple_iterator", data := .fields #[.ref a, .int 0 0] }
  | .s x k => { cls := .type (strIterType x), data := .fields #[.str x k, .int 0 0] }
def Bs.at (b : Bs) (it : Addr) (i : Nat) (h : Heap) : Prop := match b with
  | .l a => h.IsListIter it a i
  | .t a => h.IsTupleIter it a i
  | .s x k => h.IsStrIter it (strIterType x) x k i
def Bs.has (b : Bs) (K : PySem.W.Frag) (H : Hp) (vs : List V) : Prop := match b with
  | .l a => SqL K H a vs
  | .t a => SqT K H a vs
  | .s x _ => vs = x.cps.toList.map fun c => V.str ⟨#[c]⟩
def Bs.fp (b : Bs) (it : Addr) : List Addr := match b with
  | .l a => [it, a]
  | .t a => [it, a]
  | .s _ _ => [it]
def Bs.lt (b : Bs) (N : Nat) : Prop := match b with
  | .l a => a < N
  | .t a => a < N
  | .s _ _ => True
def Bs.St (b : Bs) (h0 : List Value) (it : Addr) (i : Nat) (h : Heap) : Prop := match b with
  | .l a => h.IsListIter it a i ∧ h.IsList a h0.toArray
  | .t a => h.IsTupleIter it a i ∧ h.IsTuple a h0.toArray
  | .s x k => h.IsStrIter it (strIterType x) x k i
theorem ane {a b : Nat} (h : a ≠ b) : @Ne Addr a b := h
theorem Bs.sub {b : Bs} {N it c : Nat} (h : b.lt N) (hc : c ∈ b.fp it) : c = it ∨ c < N := by
  cases b with
  | l a =>
    have e : c = it ∨ c = a := by simpa [Bs.fp] using hc
    exact e.imp id fun z => by rw [z]; exact h
  | t a =>
    have e : c = it ∨ c = a := by simpa [Bs.fp] using hc
    exact e.imp id fun z => by rw [z]; exact h
  | s x k => exact .inl (by simpa [Bs.fp] using hc)
theorem Bs.mem (b : Bs) (it : Addr) : it ∈ b.fp it := by cases b <;> simp [Bs.fp]
theorem Bs.at_obj {b : Bs} {it : Addr} {i : Nat} {h : Heap} (st : b.at it i h) : ∃ o, h.get? it = some o ∧ ∀ v, o.data ≠ .cell v := by
  cases b with
  | l a => obtain ⟨o, e, _, d⟩ := st; exact ⟨o, e, fun v q => by rw [d] at q; cases q⟩
  | t a => obtain ⟨o, e, _, d⟩ := st; exact ⟨o, e, fun v q => by rw [d] at q; cases q⟩
  | s x k => obtain ⟨o, e, _, d⟩ := st; exact ⟨o, e, fun v q => by rw [d] at q; cases q⟩
theorem Bs.at_keep {b : Bs} {it : Addr} {i : Nat} {h h' : Heap} (st : b.at it i h) (k : ∀ o, h.get? it = some o → h'.get? it = some o) : b.at it i h' := by
  cases b with
  | l a => exact Heap.IsListIter.at st k
  | t a => exact Heap.IsTupleIter.at st k
  | s x t => obtain ⟨o, e, r⟩ := st; exact ⟨o, k o e, r⟩
theorem Bs.at_new (b : Bs) {h : Heap} {N : Nat} (e : h.get? N = some b.obj) : b.at N 0 h := by
  cases b with
  | l a => exact ⟨_, e, rfl, rfl⟩
  | t a => exact ⟨_, e, rfl, rfl⟩
  | s x k => exact ⟨_, e, rfl, rfl⟩
/-- the iterator draws the items -/
theorem Bs.draw {X : Cx} {pins : List (Addr × Obj)} {σ : L2.St} {H : Hp} {s : Shared} (I : L2.Inv X pins σ H s) (hh : X.A.handled = none) {b : Bs} {it : Addr} {vs : List V} (hs : b.has X.K H vs) (hlt : b.lt it) :
    ∃ (P : Nat → Value → Prop) (St : Nat → Heap → Prop), Draws X.prog X.w X.A.in1 it (b.fp it) vs.length P St ∧ (∀ i, b.at it i s.heap → St i s.heap) ∧ (∀ i h, St i h → b.at it i h) ∧ ∀ i x, P i x → ∃ v, vs[i]? = some v ∧ RelV v x := by
  have hh' : X.A.in1.handled = none := hh
  cases b with
  | l a =>
    obtain ⟨its, rv, p, hz⟩ := I.list hs
    have hl := rv.length
    have D := Draws.list (prog := X.prog) (w := X.w) (A := X.A.in1) hh' it a (Nat.ne_of_lt hlt) its.toArray
    rw [List.size_toArray, ← hl] at D
    refine ⟨_, _, D, fun i st => ⟨st, p.isList⟩, fun i h st => st.1, fun i x hx => ?_⟩
    have hx : its[i]? = some x := by simpa using hx
    have hi : i < its.length := (List.getElem?_eq_some_iff.1 hx).1
    have hv : vs[i]? = some (vs[i]'(by omega)) := List.getElem?_eq_getElem _
    obtain ⟨u, hu, ru⟩ := rv.get hv
    rw [hx] at hu
    cases hu
    exact ⟨_, hv, ru⟩
  | t a =>
    obtain ⟨its, rv, p, hz⟩ := I.tuple hs
    have hl := rv.length
    have D := Draws.tuple (prog := X.prog) (w := X.w) (A := X.A.in1) hh' it a (Nat.ne_of_lt hlt) its.toArray
    rw [List.size_toArray, ← hl] at D
    refine ⟨_, _, D, fun i st => ⟨st, (show s.heap.IsTuple a its.toArray from p)⟩, fun i h st => st.1, fun i x hx => ?_⟩
    have hx : its[i]? = some x := by simpa using hx
    have hi : i < its.length := (List.getElem?_eq_some_iff.1 hx).1
    have hv : vs[i]? = some (vs[i]'(by omega)) := List.getElem?_eq_getElem _
    obtain ⟨u, hu, ru⟩ := rv.get hv
    rw [hx] at hu
    cases hu
    exact ⟨_, hv, ru⟩
  | s x k =>
    have hs : vs = x.cps.toList.map fun c => V.str ⟨#[c]⟩ := hs
    have D := Draws.text (prog := X.prog) (w := X.w) (A := X.A.in1) hh' it x k
    have e : x.cps.size = vs.length := by rw [hs]; simp
    rw [e] at D
    refine ⟨_, _, D, fun i st => st, fun i h st => st, fun i v hx => ?_⟩
    obtain ⟨c, u, hc, rfl⟩ := hx
    exact ⟨.str ⟨#[c]⟩, by rw [hs]; simp [hc], u, rfl⟩
theorem Bs.begins (b : Bs) (its : List Value) : ∃ G : Heap → Prop, Begins b.val b.obj G ∧ ∀ h, (match b with
    | .l a => h.IsList a its.toArray
    | .t a => h.IsTuple a its.toArray
    | .s _ _ => True) → G h := by
  cases b with
  | l a => exact ⟨_, begins_list a its.toArray, fun _ h => h⟩
  | t a => exact ⟨_, begins_tuple a its.toArray, fun _ h => h⟩
  | s x k => exact ⟨_, begins_text x k, fun _ h => h⟩
theorem Bs.begin {X : Cx} {pins : List (Addr × Obj)} {σ : L2.St} {H : Hp} {s : Shared} (I : L2.Inv X pins σ H s) {b : Bs} {vs : List V} (hs : b.has X.K H vs) : ∃ G : Heap → Prop, Begins b.val b.obj G ∧ G s.heap ∧ b.lt s.heap.objs.size := by
  cases b with
  | l a =>
    obtain ⟨its, rv, p, hz⟩ := I.list hs
    exact ⟨_, begins_list a its.toArray, p.isList, p.lt⟩
  | t a =>
    obtain ⟨its, rv, p, hz⟩ := I.tuple hs
    obtain ⟨o, ho, _⟩ := id p
    exact ⟨_, begins_tuple a its.toArray, p, Heap.lt_size ho⟩
  | s x k => exact ⟨_, begins_text x k, trivial, trivial⟩
theorem Bs.inj {X : Cx} {pins : List (Addr × Obj)} {σ : L2.St} {H : Hp} {s : Shared} (I : L2.Inv X pins σ H s) {b : Bs} {us vs : List V} (h1 : b.has X.K H us) (h2 : b.has X.K H vs) : us = vs := by
  cases b with
  | l a => exact I.list_inj h1 h2
  | t a => exact I.tuple_inj h1 h2
  | s x k => exact h1.trans h2.symm
/-- the iterator alone -/
def JB (K : PySem.W.Frag) : Bs → It
  | .l a => Itl K a
  | .t a => Itt K a
  | .s x _ => Its x
theorem nosub {b : Bs} {N it c : Nat} (h : b.lt N) (hc : c ∈ b.fp it) (h1 : c ≠ it) (h2 : N ≤ c) : False := (Bs.sub h hc).elim h1 fun z => absurd z (Nat.not_lt.mpr h2)
/-- enumerate -/
def JE (K : PySem.W.Frag) (b : Bs) : It :=
  ⟨fun i H => ∃ (vs : List V) (x : V), b.has K H vs ∧ vs[i]? = some x, fun i H v H' => ∃ T x, v = .ref T ∧ H T = none ∧ H' = upd H T (.tup [.int (i : Nat), x]) ∧ ∀ vs, b.has K H vs → vs[i]? = some x, fun i H => ∃ vs : List V, b.has K H vs ∧ vs.length = i⟩
theorem turn_enumB {P : Program} {w : World} {K : PySem.W.Frag} {elts : List Expr} {kk : Nat} {tpos : Pos} {b : Bs} {N : Nat} (hb : b.lt N) :
    Turn P w K (.Tuple elts kk tpos) (JE K b) [N + 1, N] (N + 1) (fun i h => (∃ old, IsEnum h (N + 1) N ((i : Nat) : Int) old) ∧ b.at N i h) where
  mem := by simp
  obj := fun i h st c hc => by
    obtain ⟨⟨old, he⟩, hi⟩ := st
    have e' : c = N + 1 ∨ c = N := by simpa using hc
    rcases e' with z | z
    · rw [z]; exact ⟨_, he, fun v q => nomatch q⟩
    · rw [z]; exact Bs.at_obj hi
  keep := fun i h h' st k => let ⟨⟨old, he⟩, hi⟩ := st; ⟨⟨old, k (N + 1) (by simp) _ he⟩, Bs.at_keep hi fun o q => k N (by simp) o q⟩
  item := by
    intro X hP hw hK hc i pins s σ H E I hf st hg
    subst hP hw hK
    obtain ⟨⟨old, he⟩, hit⟩ := st
    obtain ⟨xs, x, hq, hx⟩ := hg
    obtain ⟨PP, St, D, d1, d2, d3⟩ := Bs.draw I (I.ok.hd hc) hq hb
    have hel : N + 1 < s.heap.objs.size := Heap.lt_size he
    have nf : N + 1 ∉ b.fp N := fun z => by
      exact nosub hb z (by omega) (by omega)
    have hxl : i < xs.length := (List.getElem?_eq_some_iff.1 hx).1
    refine wpAny_pyNext_enum_itemD D he (d1 i hit) hxl (ane (by omega)) nf fun u h' tk hu ho hit' hT hsz hk => ?_
    obtain ⟨xv, hxv, ru⟩ := d3 i u hu
    rw [hx] at hxv
    cases hxv
    refine ⟨_, rfl, wpAny_letOwnedTupleGo_enum (s := { s with heap := h', toks := tk + 1 }) ho fun h'' he' sb => ?_⟩
    have hT2 : h''.get? s.heap.objs.size = some { cls := .type "tuple", data := .seq #[.int i tk, u] } := (sb.2 _ (Nat.ne_of_gt hel)).trans hT
    have new : ObjOk X.prog X.w (upd H s.heap.objs.size (.tup [.int (i : Nat), x])) h'' s.heap.objs.size (.tup [.int (i : Nat), x]) :=
      ⟨by show 2 ≤ sizeLine; decide, [.int i tk, u], .cons ⟨_, rfl⟩ (.cons ru .nil), ⟨_, hT2, rfl, _, rfl⟩⟩
    have I1 : L2.Inv X pins σ (upd H s.heap.objs.size (.tup [.int (i : Nat), x])) { s with heap := h'', toks := tk + 1 } :=
      I.turnedNew (ch := [N + 1, N]) (fun c ob hb q => (sb.2 c (fun z => hb (by simp [z]))).trans (hk c ob (fun z => hb (by simp [z])) (fun z => hb (by simp [z])) q)) hf (Nat.le_refl _) new
    refine ⟨.ref s.heap.objs.size, _, I1, rfl, ⟨_, x, rfl, I.hok.fresh (Nat.le_refl _), rfl, fun ys hy => by rw [Bs.inj I hy hq]; exact hx⟩, ⟨⟨u, ?_⟩, Bs.at_keep (d2 _ _ hit') fun o q => (sb.2 N (ane (by omega))).trans q⟩, fun c hc => ?_⟩
    · have e1 : ((i + 1 : Nat) : Int) = (i : Int) + 1 := by omega
      rw [e1]; exact he'
    · have hb' : c < s.heap.objs.size := by
        have e' : c = N + 1 ∨ c = N := by simpa using hc
        rcases e' with z | z
        · rw [z]; exact hel
        · rw [z]; exact Nat.lt_trans (Nat.lt_succ_self N) hel
      rw [upd_ne (Nat.ne_of_lt hb')]
      exact (hf c hc).1
  done := by
    intro X hP hw hK hc i pins s σ H E I hf st hg
    subst hP hw hK
    obtain ⟨⟨old, he⟩, hit⟩ := st
    obtain ⟨xs, hq, hx⟩ := hg
    obtain ⟨PP, St, D, d1, d2, d3⟩ := Bs.draw I (I.ok.hd hc) hq hb
    obtain ⟨f0, f1, f2, f3, f4, f5⟩ := hf N (by simp)
    exact wpAny_pyNext_enum_endD D he (by rw [hx]; exact d1 i hit) fun h' eb => ⟨rfl, I.turned (t' := s.toks) (fun b o hb q => eb b o hb q) f0 f1 f3 f4 f5⟩
  self := fun A i s Q E st h => let ⟨⟨_, he⟩, _⟩ := st; wpAny_pyIter_enum he h
/-- zip -/
def JZ (K : PySem.W.Frag) (a b : Bs) : It :=
  ⟨fun i H => ∃ (xs ys : List V) (x y : V), a.has K H xs ∧ b.has K H ys ∧ xs[i]? = some x ∧ ys[i]? = some y,
    fun i H v H' => ∃ T x y, v = .ref T ∧ H T = none ∧ H' = upd H T (.tup [x, y]) ∧ (∀ xs, a.has K H xs → xs[i]? = some x) ∧ ∀ ys, b.has K H ys → ys[i]? = some y,
    fun i H => ∃ xs ys : List V, a.has K H xs ∧ b.has K H ys ∧ i = min xs.length ys.length⟩
theorem sep_of {a b : Bs} {N : Nat} (ha : a.lt N) (hb : b.lt N) : ZipSep2 (N + 4) (N + 2) (N + 3) N (N + 1) (a.fp N) (b.fp (N + 1)) where
  TIz := ane (by omega)
  TOz := ane (by omega)
  TITO := ane (by omega)
  TIi1 := ane (by omega)
  mem1 := Bs.mem _ _
  zf1 := fun z => by exact nosub ha z (by omega) (by omega)
  Tf1 := fun z => by exact nosub ha z (by omega) (by omega)
  TIi2 := ane (by omega)
  mem2 := Bs.mem _ _
  zf2 := fun z => by exact nosub hb z (by omega) (by omega)
  Tf2 := fun z => by exact nosub hb z (by omega) (by omega)
  sep1_2 := fun z => by exact nosub hb z (by omega) (by omega)
  sep2_1 := fun z => by exact nosub ha z (by omega) (by omega)
theorem Bs.lt.up {b : Bs} {N M : Nat} (h : b.lt N) (l : N ≤ M) : b.lt M := by
  cases b with
  | l a => exact Nat.lt_of_lt_of_le h l
  | t a => exact Nat.lt_of_lt_of_le h l
  | s x k => trivial
theorem turn_zipB {P : Program} {w : World} {K : PySem.W.Frag} {elts : List Expr} {kk : Nat} {tpos : Pos} {a b : Bs} {N : Nat} (ha : a.lt N) (hb : b.lt N) :
    Turn P w K (.Tuple elts kk tpos) (JZ K a b) [N + 4, N + 2, N + 3, N, N + 1] (N + 4) (fun i h => IsZip h (N + 4) (N + 2) (N + 3) .none ∧ IsTupOf2 h (N + 2) (.ref N) (.ref (N + 1)) ∧ (∃ x y, IsTupOf2 h (N + 3) x y) ∧ a.at N i h ∧ b.at (N + 1) i h) where
  mem := by simp
  obj := fun i h st c hc => by
    obtain ⟨hz, hTI, ⟨x, y, hTO⟩, h1, h2⟩ := st
    have e' : c = N + 4 ∨ c = N + 2 ∨ c = N + 3 ∨ c = N ∨ c = N + 1 := by simpa using hc
    rcases e' with q | q | q | q | q
    · rw [q]; exact ⟨_, hz, fun v q => nomatch q⟩
    · rw [q]; exact ⟨_, hTI, fun v q => nomatch q⟩
    · rw [q]; exact ⟨_, hTO, fun v q => nomatch q⟩
    · rw [q]; exact Bs.at_obj h1
    · rw [q]; exact Bs.at_obj h2
  keep := fun i h h' st k => by
    obtain ⟨hz, hTI, ⟨x, y, hTO⟩, h1, h2⟩ := st
    exact ⟨k (N + 4) (by simp) _ hz, k (N + 2) (by simp) _ hTI, ⟨x, y, k (N + 3) (by simp) _ hTO⟩, Bs.at_keep h1 fun o q => k N (by simp) o q, Bs.at_keep h2 fun o q => k (N + 1) (by simp) o q⟩
  item := by
    intro X hP hw hK hc i pins s σ H E I hf st hg
    subst hP hw hK
    obtain ⟨hz, hTI, ⟨x0, y0, hTO⟩, h1, h2⟩ := st
    obtain ⟨xs, ys, x, y, hqx, hqy, hx, hy⟩ := hg
    obtain ⟨P1, S1, D1, d1, d2, d3⟩ := Bs.draw I (I.ok.hd hc) hqx ha
    obtain ⟨P2, S2, D2, e1, e2, e3⟩ := Bs.draw I (I.ok.hd hc) hqy (hb.up (Nat.le_succ N))
    have hzl : N + 4 < s.heap.objs.size := Heap.lt_size hz
    have hT : s.TypeIs (.ref (N + 4)) "zip" := ⟨_, hz, rfl⟩
    unfold pyNext
    refine wpAny_bind (wpAny_attempt (wpAny_callSpecial?_slot (name := Str.ofString "__next__") hT F.slot_zip_next
      (wpAny_call_entry F.slot_zip_next hT F.entry_zip_next
        (zipD2_next_item (sep_of ha hb) D1 D2 hz hTI hTO (d1 i h1) (e1 i h2) (List.getElem?_eq_some_iff.1 hx).1 (List.getElem?_eq_some_iff.1 hy).1 fun u u2 h' tk hu hu2 z' TO' h1' h2' hT hsz hk => wpAny_pure ?_) (F.args_zip_next_1 _))))
    obtain ⟨xv, hxv, ru⟩ := d3 i u hu
    rw [hx] at hxv
    cases hxv
    obtain ⟨yv, hyv, ru2⟩ := e3 i u2 hu2
    rw [hy] at hyv
    cases hyv
    refine ⟨_, rfl, wpAny_letOwnedTupleGo_zip (s := { s with heap := h', toks := tk }) z' fun h'' z'' sb => ?_⟩
    have hT2 : h''.get? s.heap.objs.size = some { cls := .type "tuple", data := .seq #[u, u2] } := (sb.2 _ (Nat.ne_of_gt hzl)).trans hT
    have new : ObjOk X.prog X.w (upd H s.heap.objs.size (.tup [x, y])) h'' s.heap.objs.size (.tup [x, y]) :=
      ⟨by show 2 ≤ sizeLine; decide, [u, u2], .cons ru (.cons ru2 .nil), ⟨_, hT2, rfl, _, rfl⟩⟩
    have I1 : L2.Inv X pins σ (upd H s.heap.objs.size (.tup [x, y])) { s with heap := h'', toks := tk } :=
      I.turnedNew (ch := [N + 4, N + 2, N + 3, N, N + 1]) (fun c o hb q => (sb.2 c (fun q' => hb (by simp [q']))).trans (hk c o (fun q' => hb (by simp [q'])) (fun q' => hb (by simp [q'])) (fun q' => hb (by simp [q'])) (fun q' => hb (by simp [q'])) q)) hf (Nat.le_refl _) new
    refine ⟨.ref s.heap.objs.size, _, I1, rfl, ⟨_, x, y, rfl, I.hok.fresh (Nat.le_refl _), rfl, fun l hl => by rw [Bs.inj I hl hqx]; exact hx, fun l hl => by rw [Bs.inj I hl hqy]; exact hy⟩, ⟨z'', ?_, ⟨u, u2, ?_⟩, ?_, ?_⟩, fun c hcm => ?_⟩
    · exact (sb.2 _ (ane (by omega))).trans (hk _ _ (ane (by omega)) (ane (by omega)) (ane (by omega)) (ane (by omega)) hTI)
    · exact (sb.2 _ (ane (by omega))).trans TO'
    · exact Bs.at_keep (d2 _ _ h1') fun o q => (sb.2 _ (ane (by omega))).trans q
    · exact Bs.at_keep (e2 _ _ h2') fun o q => (sb.2 _ (ane (by omega))).trans q
    · have hlt : c < s.heap.objs.size := by
        have e' : c = N + 4 ∨ c = N + 2 ∨ c = N + 3 ∨ c = N ∨ c = N + 1 := by simpa using hcm
        rcases e' with q | q | q | q | q <;> rw [q] <;> first | exact hzl | exact Nat.lt_of_le_of_lt (Nat.add_le_add_left (by decide) N) hzl | exact Nat.lt_of_le_of_lt (Nat.le_add_right N 4) hzl
      rw [upd_ne (Nat.ne_of_lt hlt)]
      exact (hf c hcm).1
  done := by
    intro X hP hw hK hc i pins s σ H E I hf st hg
    subst hP hw hK
    obtain ⟨hz, hTI, ⟨x0, y0, hTO⟩, h1, h2⟩ := st
    obtain ⟨xs, ys, hqx, hqy, hend⟩ := hg
    obtain ⟨P1, S1, D1, d1, d2, d3⟩ := Bs.draw I (I.ok.hd hc) hqx ha
    obtain ⟨P2, S2, D2, e1, e2, e3⟩ := Bs.draw I (I.ok.hd hc) hqy (hb.up (Nat.le_succ N))
    have hT : s.TypeIs (.ref (N + 4)) "zip" := ⟨_, hz, rfl⟩
    unfold pyNext
    refine wpAny_bind (wpAny_attempt (wpAny_callSpecial?_slot (name := Str.ofString "__next__") hT F.slot_zip_next
      (wpAny_call_entry F.slot_zip_next hT F.entry_zip_next
        (zipD2_next_end (sep_of ha hb) D1 D2 hz hTI hTO (d1 i h1) (e1 i h2) (by omega) (by omega) (by omega) fun h' tk e hk he => ?_) (F.args_zip_next_1 _))))
    obtain ⟨o, ho, hcl⟩ := he
    refine wpAny_bind (wpAny_isInstance (T := "StopIteration") (b := true) ⟨o, ho, hcl⟩ isSubtype_stop ?_)
    exact wpAny_pure ⟨rfl, I.turnedL (t' := tk) (ch := [N + 4, N + 2, N + 3, N, N + 1]) (fun c o hb q =>
      hk c o (fun q' => hb (by simp [q'])) (fun q' => hb (by simp [q'])) (fun q' => hb (by simp [q'])) (fun q' => hb (by simp [q'])) q) hf⟩
  self := fun A i s Q E st h => wpAny_pyIter_zip st.1 h

/-! ### the two told together -/
structure JOk (s : Src) (J : It) (w1 : Wd) : Prop where
  go : ∀ w, Ext w1 w → Wok w → ∀ i ds d, s.items w.mem = some ds → ds[i]? = some d → J.go i w.H ∧ ∀ x H', J.yld i w.H x H' → ∃ w', w'.H = H' ∧ Ext w w' ∧ w'.mem = w.mem ∧ Wok w' ∧ Rep w' d x
  stop : ∀ w, Ext w1 w → Wok w → ∀ ds, s.items w.mem = some ds → J.stop ds.length w.H
/-- the value's items are what the data says, now and later -/
def SrcOk (s : Src) (b : Bs) (w1 : Wd) : Prop := ∀ w, Ext w1 w → Wok w → ∀ ds, s.items w.mem = some ds → ∃ vs, b.has w.K w.H vs ∧ RepL w ds vs
theorem RepL.chars {w : Wd} (x : Str) : RepL w (chars x) (x.cps.toList.map fun c => V.str ⟨#[c]⟩) := by
  unfold DL.chars
  generalize x.cps.toList = l
  induction l with
  | nil => exact .nil
  | cons c l ih => exact .cons .str ih
theorem bs_of {w : Wd} {d : D} {v : V} {u : Value} {s : Src} (ok : Wok w) (r : Rep w d v) (ru : RelV v u) (hs : srcOf d = some s) (hi : (s.items w.mem).isSome = true) : ∃ b : Bs, b.val = u ∧ SrcOk s b w := by
  cases r with
  | non => cases hs
  | bl => cases hs
  | int => cases hs
  | @str x =>
    cases hs
    obtain ⟨t, rfl⟩ := ru
    refine ⟨.s x t, rfl, fun w' e ok' ds h => ?_⟩
    cases h
    exact ⟨_, rfl, RepL.chars x⟩
  | @lst p xs vs n h q =>
    cases hs
    cases ru
    refine ⟨.l p, rfl, fun w' e ok' ds hd => ?_⟩
    cases hd
    exact ⟨vs, SqL.of (e.keep _ _ h n).1, q.mono e⟩
  | @tup p xs vs h q =>
    cases hs
    cases ru
    refine ⟨.t p, rfl, fun w' e ok' ds hd => ?_⟩
    cases hd
    exact ⟨vs, SqT.of (e.tups _ _ h), q.mono e⟩
  | @kt p xs vs h q =>
    cases hs
    cases ru
    refine ⟨.t p, rfl, fun w' e ok' ds hd => ?_⟩
    cases hd
    exact ⟨vs, e.sqT h, q.mono e⟩
  | @fl p ns h =>
    cases hs
    cases ru
    refine ⟨.l p, rfl, fun w' e ok' ds hd => ?_⟩
    cases hd
    exact ⟨_, (e.flAt h).sq, RepL.of_ints ns⟩
  | dk n h l q => cases hs
  | dt n h l q => cases hs
  | obj n h l q => cases hs
  | @cel k hk =>
    cases hs
    cases ru
    refine ⟨.l (w.ad k), rfl, fun w' e ok' ds hd => ?_⟩
    have hd : (match w'.mem[k]? with
      | some (some (.lst xs)) => some xs
      | _ => none) = some ds := hd
    split at hd
    · rename_i ys e2
      cases hd
      obtain ⟨vs, hH, q⟩ := ok'.cell k _ e2
      rw [e.adr k hk] at hH
      exact ⟨vs, SqL.of hH, q⟩
    · cases hd
section
variable {X : Cx} {G : Dx} {pins : List (Addr × Obj)} {σ : L2.St} {H : Hp} {s : Shared} {w1 w : Wd} {src : Src} {b : Bs}

theorem JOk.base {K : PySem.W.Frag} (hK : w1.K = K) (h : SrcOk src b w1) : JOk src (JB K b) w1 where
  go := fun w e ok i ds d hi hd => by
    obtain ⟨vs, q, r⟩ := h w e ok ds hi
    obtain ⟨v, hv, rv⟩ := r.get hd
    rw [e.K, hK] at q
    cases b with
    | l a =>
      refine ⟨⟨vs, v, q, hv⟩, fun x H' y => ?_⟩
      obtain ⟨rfl, y⟩ := y
      have z := y vs q
      rw [hv] at z
      cases z
      exact ⟨w, rfl, Ext.refl w, rfl, ok, rv⟩
    | t a =>
      refine ⟨⟨vs, v, q, hv⟩, fun x H' y => ?_⟩
      obtain ⟨rfl, y⟩ := y
      have z := y vs q
      rw [hv] at z
      cases z
      exact ⟨w, rfl, Ext.refl w, rfl, ok, rv⟩
    | s x k =>
      have q : vs = x.cps.toList.map fun c => V.str ⟨#[c]⟩ := q
      subst q
      have hl : i < x.cps.size := by
        have z := (List.getElem?_eq_some_iff.1 hv).1
        simpa using z
      refine ⟨hl, fun x' H' y => ?_⟩
      obtain ⟨rfl, c, hc, rfl⟩ := y
      have z : v = V.str ⟨#[c]⟩ := by
        rw [List.getElem?_map] at hv
        have hc' : x.cps.toList[i]? = some c := by simpa using hc
        rw [hc'] at hv
        exact (Option.some.inj hv).symm
      subst z
      exact ⟨w, rfl, Ext.refl w, rfl, ok, rv⟩
  stop := fun w e ok ds hi => by
    obtain ⟨vs, q, r⟩ := h w e ok ds hi
    rw [e.K, hK] at q
    have l := r.len
    cases b with
    | l a => exact ⟨vs, q, Nat.le_of_eq l.symm⟩
    | t a => exact ⟨vs, q, Nat.le_of_eq l.symm⟩
    | s x k =>
      have q : vs = x.cps.toList.map fun c => V.str ⟨#[c]⟩ := q
      subst q
      show x.cps.size ≤ ds.length
      rw [l]
      simp
theorem JOk.enm {K : PySem.W.Frag} (hK : w1.K = K) (h : SrcOk src b w1) : JOk (.enm src) (JE K b) w1 where
  go := fun w e ok i ds d hi hd => by
    have hi : (src.items w.mem).map (pairsFrom 0) = some ds := hi
    cases hs : src.items w.mem with
    | none => rw [hs] at hi; cases hi
    | some xs =>
      rw [hs] at hi
      cases hi
      obtain ⟨vs, q, r⟩ := h w e ok xs hs
      rw [e.K, hK] at q
      rw [pairsFrom_get] at hd
      cases hx : xs[i]? with
      | none => rw [hx] at hd; cases hd
      | some y =>
        rw [hx] at hd
        obtain ⟨v, hv, rv⟩ := r.get hx
        refine ⟨⟨vs, v, q, hv⟩, fun x H' z => ?_⟩
        obtain ⟨T, x', rfl, hT, rfl, z⟩ := z
        have z := z vs q
        rw [hv] at z
        cases z
        refine ⟨w.put T (.tup [.int (i : Nat), v]), rfl, Ext.put ok hT, rfl, ok.put hT, ?_⟩
        have e2 : d = .tup [.int ((0 + i : Nat) : Int), y] := (Option.some.inj hd).symm
        rw [Nat.zero_add] at e2
        rw [e2]
        exact put_tup ok hT (.cons .int (.cons rv .nil))
  stop := fun w e ok ds hi => by
    have hi : (src.items w.mem).map (pairsFrom 0) = some ds := hi
    cases hs : src.items w.mem with
    | none => rw [hs] at hi; cases hi
    | some xs =>
      rw [hs] at hi
      cases hi
      obtain ⟨vs, q, r⟩ := h w e ok xs hs
      rw [e.K, hK] at q
      exact ⟨vs, q, by rw [pairsFrom_len, r.len]⟩
theorem JOk.zp {K : PySem.W.Frag} {s1 s2 : Src} {b1 b2 : Bs} (hK : w1.K = K) (h : SrcOk s1 b1 w1) (h' : SrcOk s2 b2 w1) : JOk (.zp s1 s2) (JZ K b1 b2) w1 := by
  have spl : ∀ {m ds}, (Src.zp s1 s2).items m = some ds → ∃ xs ys, s1.items m = some xs ∧ s2.items m = some ys ∧ ds = zipD xs ys := fun {m ds} hi => by
    have hi : (match s1.items m, s2.items m with
      | some x, some y => some (zipD x y)
      | _, _ => none) = some ds := hi
    split at hi
    · rename_i x y e1 e2
      cases hi
      exact ⟨x, y, e1, e2, rfl⟩
    · cases hi
  refine ⟨fun w e ok i ds d hi hd => ?_, fun w e ok ds hi => ?_⟩
  · obtain ⟨xs, ys, i1, i2, rfl⟩ := spl hi
    obtain ⟨x, y, hx, hy, rfl⟩ := zipD_get xs ys i d hd
    obtain ⟨vs, q, r⟩ := h w e ok xs i1
    obtain ⟨us, q2, r2⟩ := h' w e ok ys i2
    rw [e.K, hK] at q q2
    obtain ⟨v, hv, rv⟩ := r.get hx
    obtain ⟨u, hu, ru⟩ := r2.get hy
    refine ⟨⟨vs, us, v, u, q, q2, hv, hu⟩, fun x' H' z => ?_⟩
    obtain ⟨T, a, c, rfl, hT, rfl, z1, z2⟩ := z
    have z1 := z1 vs q
    have z2 := z2 us q2
    rw [hv] at z1
    rw [hu] at z2
    cases z1
    cases z2
    exact ⟨w.put T (.tup [v, u]), rfl, Ext.put ok hT, rfl, ok.put hT, put_tup ok hT (.cons rv (.cons ru .nil))⟩
  · obtain ⟨xs, ys, i1, i2, rfl⟩ := spl hi
    obtain ⟨vs, q, r⟩ := h w e ok xs i1
    obtain ⟨us, q2, r2⟩ := h' w e ok ys i2
    rw [e.K, hK] at q q2
    exact ⟨vs, us, q, q2, by rw [zipD_len, r.len, r2.len]⟩
def rangeD (i : Int) (n : Nat) : List D := (List.range n).map fun k => .int (i + (k : Nat))
theorem JOk.rng {i : Int} {n : Nat} : JOk (.its (rangeD i n)) (Itr i n) w1 where
  go := fun w e ok k ds d hi hd => by
    cases hi
    unfold rangeD at hd
    rw [List.getElem?_map] at hd
    have hk : k < n := by
      cases q : (List.range n)[k]? with
      | none => rw [q] at hd; cases hd
      | some z =>
        have := (List.getElem?_eq_some_iff.1 q).1
        simpa using this
    rw [List.getElem?_range hk] at hd
    cases hd
    refine ⟨hk, fun x H' y => ?_⟩
    obtain ⟨rfl, rfl⟩ := y
    exact ⟨w, rfl, Ext.refl w, rfl, ok, .int⟩
  stop := fun w e ok ds hi => by
    cases hi
    show n ≤ (rangeD i n).length
    unfold rangeD
    simp
end

/-! ### the judgement -/
abbrev FI := Env → Mem → R Src
def asI (X : Cx) (G : Dx) (f : FI) : TI := fun σ H Rr => ∃ w env, At X G w σ H env ∧ Out G w σ (fun (s : Src) w' => ∀ J, JOk s J w' → Rr J w'.H) (f env w.mem)
abbrev DI (X : Cx) (G : Dx) (tg iter : Expr) (f : FI) : Prop := PI X tg iter (asI X G f)
section
variable {X : Cx} {G : Dx} {tg e a b : Expr} {es : List Expr} {fe : FE} {fs : FA} {pos p : Pos}
theorem Out.st' {α : Type} {w : Wd} {σ : L2.St} {P : α → Wd → Prop} (h : Out G w σ P .st) : False := h
/-- what an iterator is made from, in the data and in the value -/
@[reducible] def itrOf (m : Mem) (d : D) : R Src := match srcOf d with
  | some s => if (s.items m).isSome = true then .ok s m else .st
  | none => .st
theorem itr_ok {w : Wd} {σ : L2.St} {d : D} {P : Src → Wd → Prop} (h : Out G w σ P (itrOf w.mem d)) (ok : Wok w) : ∃ s, srcOf d = some s ∧ (s.items w.mem).isSome = true ∧ P s w := by
  cases hs : srcOf d with
  | none => simp only [itrOf, hs] at h; exact h.st'.elim
  | some s =>
    by_cases hi : (s.items w.mem).isSome = true
    · simp only [itrOf, hs, if_pos hi] at h
      exact ⟨s, rfl, hi, h.here ok⟩
    · simp only [itrOf, hs, if_neg hi] at h
      exact h.st'.elim
@[reducible] def fItr (fe : FE) : FI := fun env m => (fe env m).bind fun d m1 => itrOf m1 d
theorem di_seq (he : DE X G e fe) : DI X G tg e (fItr fe) := ⟨fun pins s σ H Rr I h => by
  obtain ⟨w, env, A, h⟩ := h
  refine thn (he.run pins s σ H (fun v H1 => ∃ w1, At X G w1 σ H1 env ∧ ∃ d, Rep w1 d v ∧ ∃ sr, srcOf d = some sr ∧ (sr.items w1.mem).isSome = true ∧ ∀ J, JOk sr J w1 → Rr J w1.H) I ⟨w, env, A, (Out.seq h).imp fun d w1 e1 ok1 h1 v rv => ?_⟩) fun u s1 ⟨v, H1, I1, ru, w1, A1, d, rv, sr, h1, h2, q⟩ => ?_
  · obtain ⟨sr, z1, z2, z3⟩ := itr_ok h1 ok1
    exact ⟨w1, A.go e1 ok1, d, rv, sr, z1, z2, z3⟩
  · obtain ⟨b, rfl, hb⟩ := bs_of A1.rel.ok rv ru h1 h2
    have q := q (JB X.K b) (JOk.base A1.K hb)
    rw [A1.H] at q
    obtain ⟨ds, hds⟩ := Option.isSome_iff_exists.1 h2
    obtain ⟨vs, hv, _⟩ := hb w1 (Ext.refl w1) A1.rel.ok ds hds
    rw [A1.K, A1.H] at hv
    cases b with
    | l a =>
      obtain ⟨its, rv, p, hz⟩ := I1.list hv
      exact wpAny_pyIter_list p.isList (pi_one (tk := s1.toks) I1 _ (turn_list a _) ⟨_, Heap.get?_push_size _ rfl, rfl, rfl⟩ q)
    | t a =>
      obtain ⟨its, rv, p, hz⟩ := I1.tuple hv
      exact wpAny_pyIter_tuple (show s1.heap.IsTuple a its.toArray from p) (pi_one (tk := s1.toks) I1 _ (turn_tuple a _) ⟨_, Heap.get?_push_size _ rfl, rfl, rfl⟩ q)
    | s x t =>
      cases ha : x.cps.all (· < 128)
      · exact wpAny_pyIter_wide ha (pi_one (tk := s1.toks) I1 _ (turn_str _ x t "str_iterator" (.inr rfl)) ⟨_, Heap.get?_push_size _ rfl, rfl, rfl⟩ q)
      · exact wpAny_pyIter_ascii ha (pi_one (tk := s1.toks) I1 _ (turn_str _ x t "str_ascii_iterator" (.inl rfl)) ⟨_, Heap.get?_push_size _ rfl, rfl, rfl⟩ q)⟩
/-- range -/
def rgB (i : Int) : Bool := decide (-(2 ^ 62) ≤ i) && decide (i < 2 ^ 62)
theorem rgB_ok {i : Int} (h : rgB i = true) : -(2 ^ 62) ≤ i ∧ i < 2 ^ 62 := by
  unfold rgB at h
  rw [Bool.and_eq_true, decide_eq_true_iff, decide_eq_true_iff] at h
  exact h
@[reducible] def rng1 (m : Mem) (ds : List D) : R Src := match ds with
  | [.int j] => if rgB j = true then .ok (.its (rangeD 0 j.toNat)) m else .st
  | _ => .st
@[reducible] def rng2 (m : Mem) (ds : List D) : R Src := match ds with
  | [.int i, .int j] => if (rgB i && rgB j) = true then .ok (.its (rangeD i (j - i).toNat)) m else .st
  | _ => .st
@[reducible] def fRng1 (fs : FA) : FI := fun env m => (fs env m).bind fun ds m1 => rng1 m1 ds
@[reducible] def fRng2 (fs : FA) : FI := fun env m => (fs env m).bind fun ds m1 => rng2 m1 ds
theorem di_rng1 (hg : Gl X "range") (hm : X.mg "range" = none) (ha : DA X G [a] fs) (hs : starEach [a] X.env = [(false, eval a X.env)] := by rfl) : DI X G tg (.Call (.Name "range" p) [a] [] pos) (fRng1 fs) := ⟨fun pins s σ H Rr I h => by
  obtain ⟨w, env, A, h⟩ := h
  refine (pi_range1 hg hm ha hs).run pins s σ H Rr I ⟨w, env, A, (Out.seq h).imp fun ds w1 e1 ok1 h1 vs rv => ?_⟩
  cases rv with
  | nil => exact h1.st'.elim
  | cons r rr =>
    cases r with
    | @int j =>
      cases rr with
      | nil =>
        by_cases hj : rgB j = true
        · simp only [rng1, if_pos hj] at h1
          obtain ⟨k1, k2⟩ := rgB_ok hj
          exact ⟨j, rfl, k1, k2, h1.here ok1 _ JOk.rng⟩
        · simp only [rng1, if_neg hj] at h1
          exact h1.st'.elim
      | cons _ _ => exact h1.st'.elim
    | _ => exact h1.st'.elim⟩
theorem di_rng2 (hg : Gl X "range") (hm : X.mg "range" = none) (ha : DA X G [a, b] fs) (hs : starEach [a, b] X.env = [(false, eval a X.env), (false, eval b X.env)] := by rfl) (hs2 : starEach [b] X.env = [(false, eval b X.env)] := by rfl) : DI X G tg (.Call (.Name "range" p) [a, b] [] pos) (fRng2 fs) := ⟨fun pins s σ H Rr I h => by
  obtain ⟨w, env, A, h⟩ := h
  refine (pi_range2 hg hm ha hs hs2).run pins s σ H Rr I ⟨w, env, A, (Out.seq h).imp fun ds w1 e1 ok1 h1 vs rv => ?_⟩
  cases rv with
  | nil => exact h1.st'.elim
  | cons r rr =>
    cases r with
    | @int i =>
      cases rr with
      | nil => exact h1.st'.elim
      | cons r2 rr =>
        cases r2 with
        | @int j =>
          cases rr with
          | nil =>
            by_cases hj : (rgB i && rgB j) = true
            · simp only [rng2, if_pos hj] at h1
              rw [Bool.and_eq_true] at hj
              obtain ⟨k1, k2⟩ := rgB_ok hj.1
              obtain ⟨k3, k4⟩ := rgB_ok hj.2
              exact ⟨i, j, rfl, ⟨k1, k2, k3, k4⟩, h1.here ok1 _ JOk.rng⟩
            · simp only [rng2, if_neg hj] at h1
              exact h1.st'.elim
          | cons _ _ => exact h1.st'.elim
        | _ => exact h1.st'.elim
    | _ => exact h1.st'.elim⟩
/-- enumerate(x) -/
@[reducible] def enmOf (m : Mem) (ds : List D) : R Src := match ds with
  | [d] => (itrOf m d).bind fun s m1 => .ok (.enm s) m1
  | _ => .st
@[reducible] def fEnm (fs : FA) : FI := fun env m => (fs env m).bind fun ds m1 => enmOf m1 ds
theorem enum_new (v : Value) (o : Obj) {Hh : Heap → Prop} (B : Begins v o Hh) : Meets (Builtin.«enumerate.__new__» ⟨[.type "enumerate", v], []⟩) (fun _ R s => Hh s.heap ∧
      R (.ok (.ret (.ref (s.heap.push o).objs.size))) { s with heap := (s.heap.push o).push { cls := .type "enumerate", data := .fields #[.none, .bool false, .ref s.heap.objs.size, rawInt 0, .none, .none] } }) :=
  .of_wp fun prog w A R s h => by
    obtain ⟨hp, g, d, tk, os⟩ := s
    obtain ⟨h1, h⟩ := h
    have hsub := sub_enumerate
    have q1 : ∀ {A' : Around} {E : Value → Shared → Prop} {Q : Value → Shared → Prop}, Q (.ref hp.objs.size) ⟨hp.push o, g, d, tk, os⟩ → wpAny (model prog w) A' (pyIter v) Q E ⟨hp, g, d, tk, os⟩ :=
      fun q => B.iter prog w _ _ ⟨hp, g, d, tk, os⟩ _ h1 q
    wp_walk using q1
    refine wpAny_stack_any fun st => wpAny_pure ?_
    split
    · rename_i c _ _ _ _ _
      cases (c == Value.type "enumerate")
      · wp_walk using q1
        exact ⟨_, rfl, h⟩
      · wp_walk using q1
        exact ⟨_, rfl, h⟩
    · wp_walk using q1
      exact ⟨_, rfl, h⟩
theorem call_enumB {prog : Program} {w : World} {A : Around} {E : Value → Shared → Prop} {s : Shared} {v : Value} {o : Obj} {Hh : Heap → Prop} {Q : Value → Shared → Prop} (B : Begins v o Hh) (h1 : Hh s.heap)
    (h : ∀ h', IsEnum h' (s.heap.objs.size + 1) s.heap.objs.size 0 .none → h'.get? s.heap.objs.size = some o → h'.objs.size = s.heap.objs.size + 2 →
      (∀ b o, s.heap.get? b = some o → h'.get? b = some o) → Q (.ref (s.heap.objs.size + 1)) { s with heap := h' }) :
    wpAny (model prog w) A (call (.type "enumerate") [v]) Q E s := by
  refine callType_new F.called_enumerate (by decide) (F.typeCall_enumerate_1 _) (F.newCall_enumerate_1 _) (fun obj => F.args_object_init_2 obj _) F.entry_enumerate_new (enum_new v o B) ⟨h1, ?_⟩
  have hz : (s.heap.push o).objs.size = s.heap.objs.size + 1 := Heap.size_push ..
  show _ ∧ _
  rw [hz]
  have he : IsEnum ((s.heap.push o).push { cls := .type "enumerate", data := .fields #[.none, .bool false, .ref s.heap.objs.size, rawInt 0, .none, .none] }) (s.heap.objs.size + 1) s.heap.objs.size 0 .none := by
    have := Heap.get?_push_size (s.heap.push o) (o := { cls := .type "enumerate", data := .fields #[.none, .bool false, .ref s.heap.objs.size, rawInt 0, .none, .none] }) rfl
    rw [hz] at this; exact this
  refine ⟨⟨_, he, rfl⟩, h _ he (Heap.get?_push_of_some _ (Heap.get?_push_size _ B.free)) (by rw [Heap.size_push, hz]) fun b o x => Heap.get?_push_of_some _ (Heap.get?_push_of_some _ x)⟩
theorem di_enm {elts : List Expr} {kk : Nat} {tpos : Pos} (hg : Gl X "enumerate") (hm : X.mg "enumerate" = none) (ha : DA X G [e] fs) (hs : starEach [e] X.env = [(false, eval e X.env)] := by rfl) :
    DI X G (.Tuple elts kk tpos) (.Call (.Name "enumerate" p) [e] [] pos) (fEnm fs) := ⟨fun pins s σ H Rr I h => by
  obtain ⟨w, env, A, h⟩ := h
  refine Call_ (ld_blt I hg hm boot_enumerate (PyProof.Rows.callWith_type1 (thn (ha.run pos pins s σ H (fun vs H1 => ∃ w1, At X G w1 σ H1 env ∧ ∃ d v, vs = [v] ∧ Rep w1 d v ∧ ∃ sr, srcOf d = some sr ∧ (sr.items w1.mem).isSome = true ∧ ∀ J, JOk (.enm sr) J w1 → Rr J w1.H) I ⟨w, env, A, (Out.seq h).imp fun ds w1 e1 ok1 h1 vs rvs => ?_⟩) fun us s1 ⟨vs, H1, I1, r1, w1, A1, d, v, ev, rv, sr, h1, h2, q⟩ => ?_) hs rfl))
  · cases rvs with
    | nil => exact h1.st'.elim
    | @cons d v _ _ r rr =>
      cases rr with
      | cons _ _ => exact h1.st'.elim
      | nil =>
        have h1 : Out G w1 σ (fun s w' => ∀ J, JOk s J w' → Rr J w'.H) ((itrOf w1.mem d).bind fun s m1 => .ok (.enm s) m1) := h1
        obtain ⟨sr, z1, z2, z3⟩ := itr_ok (Out.seq h1) ok1
        exact ⟨w1, A.go e1 ok1, d, v, rfl, r, sr, z1, z2, z3.here ok1⟩
  · subst ev
    cases r1 with
    | cons ru rr =>
      cases rr
      obtain ⟨b, rfl, hb⟩ := bs_of A1.rel.ok rv ru h1 h2
      have q := q (JE X.K b) (JOk.enm A1.K hb)
      rw [A1.H] at q
      obtain ⟨ds, hds⟩ := Option.isSome_iff_exists.1 h2
      obtain ⟨vs, hv, _⟩ := hb w1 (Ext.refl w1) A1.rel.ok ds hds
      rw [A1.K, A1.H] at hv
      obtain ⟨GG, B, hG, hlt⟩ := Bs.begin I1 hv
      refine call_enumB B hG fun h' he hit hsz hk => wpAny_pyIter_enum he ?_
      have I2 : L2.Inv X pins σ H1 { s1 with heap := h' } := I1.kept (t' := s1.toks) hk
      refine ⟨s1.heap.objs.size + 1, [s1.heap.objs.size + 1, s1.heap.objs.size], _, _, H1, rfl, I2, turn_enumB hlt, ⟨⟨.none, he⟩, Bs.at_new b hit⟩, fun c hc => ?_, q⟩
      have e' : c = s1.heap.objs.size + 1 ∨ c = s1.heap.objs.size := by simpa using hc
      have hle : s1.heap.objs.size ≤ c := by
        rcases e' with z | z
        · rw [z]; exact Nat.le_add_right _ _
        · rw [z]; exact Nat.le_refl _
      exact I1.fpOk hle (I1.hok.fresh hle)⟩
/-- zip(x, y) -/
@[reducible] def zipOf (m : Mem) (ds : List D) : R Src := match ds with
  | [d, e] => (itrOf m d).bind fun s m1 => (itrOf m1 e).bind fun t m2 => .ok (.zp s t) m2
  | _ => .st
@[reducible] def fZip (fs : FA) : FI := fun env m => (fs env m).bind fun ds m1 => zipOf m1 ds
theorem di_zip {elts : List Expr} {kk : Nat} {tpos : Pos} (hg : Gl X "zip") (hm : X.mg "zip" = none) (ha : DA X G [a, b] fs)
    (hs : starEach [a, b] X.env = (false, eval a X.env) :: starEach [b] X.env := by rfl) (hpl : (backTo pos (starEach [b] X.env)).any (·.1) = false := by rfl) :
    DI X G (.Tuple elts kk tpos) (.Call (.Name "zip" p) [a, b] [] pos) (fZip fs) := ⟨fun pins s σ H Rr I h => by
  obtain ⟨w, env, A, h⟩ := h
  refine Call_ (ld_blt I hg hm PyProof.Rows.boot_zip (PyProof.Rows.callWith_type1 (thn (ha.run pos pins s σ H (fun vs H1 => ∃ w1, At X G w1 σ H1 env ∧ ∃ d v d2 v2, vs = [v, v2] ∧ Rep w1 d v ∧ Rep w1 d2 v2 ∧ ∃ sr sr2, srcOf d = some sr ∧ (sr.items w1.mem).isSome = true ∧ srcOf d2 = some sr2 ∧ (sr2.items w1.mem).isSome = true ∧ ∀ J, JOk (.zp sr sr2) J w1 → Rr J w1.H) I ⟨w, env, A, (Out.seq h).imp fun ds w1 e1 ok1 h1 vs rvs => ?_⟩) fun us s1 ⟨vs, H1, I1, r1, w1, A1, d, v, d2, v2, ev, rv, rv2, sr, sr2, h1, h2, h3, h4, q⟩ => ?_) hs hpl))
  · cases rvs with
    | nil => exact h1.st'.elim
    | @cons d v _ _ r rr =>
      cases rr with
      | nil => exact h1.st'.elim
      | @cons d2 v2 _ _ r2 rr =>
        cases rr with
        | cons _ _ => exact h1.st'.elim
        | nil =>
          have h1 : Out G w1 σ (fun s w' => ∀ J, JOk s J w' → Rr J w'.H) ((itrOf w1.mem d).bind fun s m1 => (itrOf m1 d2).bind fun t m2 => .ok (.zp s t) m2) := h1
          obtain ⟨sr, z1, z2, z3⟩ := itr_ok (Out.seq h1) ok1
          obtain ⟨sr2, y1, y2, y3⟩ := itr_ok (Out.seq z3) ok1
          exact ⟨w1, A.go e1 ok1, d, v, d2, v2, rfl, r, r2, sr, sr2, z1, z2, y1, y2, y3.here ok1⟩
  · subst ev
    cases r1 with
    | cons ru rr =>
      cases rr with
      | cons ru2 rr =>
        cases rr
        obtain ⟨b1, rfl, hb1⟩ := bs_of A1.rel.ok rv ru h1 h2
        obtain ⟨b2, rfl, hb2⟩ := bs_of A1.rel.ok rv2 ru2 h3 h4
        have q := q (JZ X.K b1 b2) (JOk.zp A1.K hb1 hb2)
        rw [A1.H] at q
        obtain ⟨ds, hds⟩ := Option.isSome_iff_exists.1 h2
        obtain ⟨vs, hv, _⟩ := hb1 w1 (Ext.refl w1) A1.rel.ok ds hds
        obtain ⟨ds2, hds2⟩ := Option.isSome_iff_exists.1 h4
        obtain ⟨vs2, hv2, _⟩ := hb2 w1 (Ext.refl w1) A1.rel.ok ds2 hds2
        rw [A1.K, A1.H] at hv hv2
        obtain ⟨G1, B1, hG1, hlt1⟩ := Bs.begin I1 hv
        obtain ⟨G2, B2, hG2, hlt2⟩ := Bs.begin I1 hv2
        refine zip_begins2 B1 B2 hG1 hG2 fun h' hz hTI hTO hi1 hi2 hsz hk => wpAny_pyIter_zip hz ?_
        have I2 : L2.Inv X pins σ H1 { s1 with heap := h' } := I1.kept (t' := s1.toks) hk
        refine ⟨s1.heap.objs.size + 4, [s1.heap.objs.size + 4, s1.heap.objs.size + 2, s1.heap.objs.size + 3, s1.heap.objs.size, s1.heap.objs.size + 1], _, _, H1, rfl, I2, turn_zipB hlt1 hlt2, ⟨hz, hTI, ⟨_, _, hTO⟩, Bs.at_new b1 hi1, Bs.at_new b2 hi2⟩, fun c hcm => ?_, q⟩
        have e' : c = s1.heap.objs.size + 4 ∨ c = s1.heap.objs.size + 2 ∨ c = s1.heap.objs.size + 3 ∨ c = s1.heap.objs.size ∨ c = s1.heap.objs.size + 1 := by simpa using hcm
        have hle : s1.heap.objs.size ≤ c := by
          rcases e' with z | z | z | z | z
          · rw [z]; exact Nat.le_add_right _ _
          · rw [z]; exact Nat.le_add_right _ _
          · rw [z]; exact Nat.le_add_right _ _
          · rw [z]; exact Nat.le_refl _
          · rw [z]; exact Nat.le_add_right _ _
        exact I1.fpOk hle (I1.hok.fresh hle)⟩
end

/-! ### loops -/
/-- the turns of a for loop; n: turns at most -/
def forGo (s : Src) (tg : TgD) (fb : FS) : Nat → Nat → Env → Mem → S
  | 0, _, _, _ => .st
  | n + 1, i, env, m => match s.items m with
    | none => .st
    | some ds => match ds[i]? with
      | none => if ds.length = i then .nx env m else .st
      | some d => match tg d env m with
        | none => .st
        | some e1 => match fb e1 m with
          | .nx e2 m2 => forGo s tg fb n (i + 1) e2 m2
          | .ct e2 m2 => forGo s tg fb n (i + 1) e2 m2
          | .bk e2 m2 => .nx e2 m2
          | .rt d m2 => .rt d m2
          | .ex c f ds e2 m2 => .ex c f ds e2 m2
          | .st => .st
def Src.fuel (m : Mem) (s : Src) : Nat := match s.items m with
  | some ds => ds.length + 1
  | none => 0
@[reducible] def fFor (fi : FI) (tg : TgD) (fb : FS) : FS := fun env m => (fi env m).bindS env fun s m1 => forGo s tg fb (s.fuel m1) 0 env m1
def whGo (fc : FT) (fb : FS) : Nat → Env → Mem → S
  | 0, _, _ => .st
  | n + 1, env, m => (fc env m).bindS env fun b m1 => if b = true then (match fb env m1 with
    | .nx e2 m2 => whGo fc fb n e2 m2
    | .ct e2 m2 => whGo fc fb n e2 m2
    | .bk e2 m2 => .nx e2 m2
    | .rt d m2 => .rt d m2
    | .ex c f ds e2 m2 => .ex c f ds e2 m2
    | .st => .st) else .nx env m1
@[reducible] def fWhile (n : Nat) (fc : FT) (fb : FS) : FS := fun env m => whGo fc fb n env m
section
variable {X : Cx} {G : Dx} {tge iter c : Expr} {body : List Stmt} {fi : FI} {tg : TgD} {ts : List Nat} {fb : FS} {fc : FT} {pos : Pos}
theorem ds_for (hp : PassesOwn (model X.prog X.w) X.A X.env X.xe) (hc : X.calm = true) (hi : DI X G tge iter fi) (hg : DG X G tge tg ts) (hb : DSs X G body fb)
    (hs : ∀ x, foldedSetIterable iter X.env x = pure x := by intro _; rfl) : DSt X G (.For tge iter body [] pos) (fFor fi tg fb) := ⟨fun pins s σ H E I h => by
  obtain ⟨w, env, A, h⟩ := h
  refine (ps_for hp hc hi hg hb hs).run pins s σ H E I ?_
  refine ⟨w, env, A, (Out.seqS h A.rel).imp fun sr w1 e1 ok1 h1 J hJ => ?_⟩
  refine ⟨fun i m σ H => ∃ w' env', Ext w1 w' ∧ At X G w' σ H env' ∧ OutS G w' E (forGo sr tg fb m i env' w'.mem), ⟨_, w1, env, Ext.refl w1, A.go e1 ok1, h1⟩, ?_⟩
  rintro i m σ' H' ⟨w', env', e', A', h'⟩
  cases m with
  | zero => exact h'.elim
  | succ m =>
    unfold forGo at h'
    cases hds : sr.items w'.mem with
    | none => rw [hds] at h'; exact h'.elim
    | some ds =>
      rw [hds] at h'
      dsimp only at h'
      cases hd : ds[i]? with
      | none =>
        rw [hd] at h'
        dsimp only at h'
        by_cases hl : ds.length = i
        · rw [if_pos hl] at h'
          refine .inl ⟨?_, ?_⟩
          · have z := hJ.stop w' e' A'.rel.ok ds hds
            rw [A'.H, hl] at z
            exact z
          · have z := h' w' σ' (Ext.refl w') rfl A'.rel
            rw [A'.H] at z
            exact z
        · rw [if_neg hl] at h'
          exact h'.elim
      | some d =>
        rw [hd] at h'
        dsimp only at h'
        obtain ⟨z1, z2⟩ := hJ.go w' e' A'.rel.ok i ds d hds hd
        rw [A'.H] at z1 z2
        refine .inr ⟨z1, fun σ2 H2 => ∃ w2 env2, Ext w1 w2 ∧ At X G w2 σ2 H2 env2 ∧ OutS G w2 E (forGo sr tg fb m (i + 1) env2 w2.mem), fun σ2 H2 q => ⟨m, Nat.lt_succ_self m, q⟩, fun x H2 y => ?_⟩
        obtain ⟨w2, rfl, e2, hm2, ok2, rx⟩ := z2 x H2 y
        have A2 := A'.go e2 ok2
        cases ht : tg d env' w'.mem with
        | none => rw [ht] at h'; exact h'.elim
        | some env2 =>
          rw [ht] at h'
          dsimp only at h'
          refine ⟨w2, env', d, env2, A2, rx, by rw [hm2]; exact ht, fun σ3 r3 _ => ?_⟩
          refine ⟨w2, env2, ⟨A2.K, A2.cl, rfl, r3, A2.xi⟩, ?_⟩
          rw [hm2]
          have up : ∀ {w3 : Wd} {σ4 : L2.St} {e3 : Env} {m3 : Mem}, Ext w2 w3 → w3.mem = m3 → Rel w3 σ4 e3 → OutS G w' E (forGo sr tg fb m (i + 1) e3 m3) → ∃ w2 env2, Ext w1 w2 ∧ At X G w2 σ4 w3.H env2 ∧ OutS G w2 E (forGo sr tg fb m (i + 1) env2 w2.mem) := fun {w3 σ4 e3 m3} x1 x2 x3 x4 =>
            ⟨w3, e3, (e'.trans e2).trans x1, A2.to x1 x3, by rw [x2]; exact x4.ext (e2.trans x1)⟩
          cases hr : fb env2 w'.mem with
          | nx e3 m3 =>
            rw [hr] at h'
            exact fun w3 σ4 x1 x2 x3 => up x1 x2 x3 h'
          | ct e3 m3 =>
            rw [hr] at h'
            exact fun w3 σ4 x1 x2 x3 => up x1 x2 x3 h'
          | bk e3 m3 =>
            rw [hr] at h'
            exact OutS.ext (r := .nx e3 m3) h' e2
          | rt d3 m3 =>
            rw [hr] at h'
            exact OutS.ext (r := .rt d3 m3) h' e2
          | ex c f ds e3 m3 =>
            rw [hr] at h'
            exact OutS.ext (r := .ex c f ds e3 m3) h' e2
          | st => rw [hr] at h'; exact h'.elim⟩
theorem ds_while (n : Nat) (hp : PassesOwn (model X.prog X.w) X.A X.env X.xe) (hc : DT X G c fc) (hb : DSs X G body fb) : DSt X G (.While c body [] pos) (fWhile n fc fb) := ⟨fun pins s σ H E I h => by
  obtain ⟨w, env, A, h⟩ := h
  refine (ps_while hp hc hb).run pins s σ H E I ?_
  refine ⟨fun m σ H => ∃ w' env', At X G w' σ H env' ∧ OutS G w' E (whGo fc fb m env' w'.mem), ⟨n, w, env, A, h⟩, ?_⟩
  rintro m σ' H' ⟨w', env', A', h'⟩
  cases m with
  | zero => exact h'.elim
  | succ m =>
    unfold whGo at h'
    refine ⟨w', env', A', (Out.seqS h' A'.rel).imp fun b w1 e1 ok1 h1 => ?_⟩
    show if b = true then _ else _
    have A1 := A'.go e1 ok1
    cases b with
    | false =>
      rw [if_neg Bool.false_ne_true] at h1 ⊢
      exact h1 w1 σ' (Ext.refl w1) rfl A1.rel
    | true =>
      rw [if_pos rfl] at h1 ⊢
      refine ⟨fun σ2 H2 => ∃ w2 env2, At X G w2 σ2 H2 env2 ∧ OutS G w2 E (whGo fc fb m env2 w2.mem), fun σ2 H2 q => ⟨m, Nat.lt_succ_self m, q⟩, w1, env', A1, ?_⟩
      cases hr : fb env' w1.mem with
      | nx e3 m3 =>
        rw [hr] at h1
        exact fun w3 σ4 x1 x2 x3 => ⟨w3, e3, A1.to x1 x3, by rw [x2]; exact OutS.ext h1 x1⟩
      | ct e3 m3 =>
        rw [hr] at h1
        exact fun w3 σ4 x1 x2 x3 => ⟨w3, e3, A1.to x1 x3, by rw [x2]; exact OutS.ext h1 x1⟩
      | bk e3 m3 => rw [hr] at h1; exact h1
      | rt d3 m3 => rw [hr] at h1; exact h1
      | ex c f ds e3 m3 => rw [hr] at h1; exact h1
      | st => rw [hr] at h1; exact h1.elim⟩
end
end DL
/-! DL10: list comprehensions. -/
namespace DL
open PySem PySem.Spec PyProof.Rows L2

/-- one held address turns, the rest stands -/
structure Shift (A : Addr) (w w' : Wd) : Prop where
  K : w'.K = w.K
  cl : w'.cl = w.cl
  len : w.mem.length ≤ w'.mem.length
  adr : ∀ k, k < w.mem.length → w'.ad k = w.ad k
  H : ∀ a, a ≠ A → w'.H a = w.H a
  hA : ∃ xs, w.H A = some (.lst xs)
  hA' : ∃ xs, w'.H A = some (.lst xs)
  lvA : w.lv A
  lv : ∀ a, w'.lv a → w.lv a
  rs : ∀ a, w.rs a → a ≠ A → w'.rs a
section
variable {A : Addr} {w w' w1 : Wd}
theorem Shift.ne_lv (S : Shift A w w') {a : Addr} (h : ¬ w.lv a) : a ≠ A := fun e => h (e ▸ S.lvA)
theorem Shift.ne_of (S : Shift A w w') {a : Addr} {o : HO} (h : w.H a = some o) (n : ∀ xs, o ≠ .lst xs) : a ≠ A := fun e => by
  obtain ⟨xs, q⟩ := S.hA
  rw [e, q] at h
  exact n xs (Option.some.inj h).symm
theorem Shift.sqT (S : Shift A w w') {p : Addr} {vs : List V} (h : SqT w.K w.H p vs) : SqT w'.K w'.H p vs := by
  rw [S.K]
  rcases h with (h | ⟨o, h⟩) | h
  · exact .inl (.inl (by rw [S.H p (S.ne_of h (fun _ z => by cases z))]; exact h))
  · exact .inl (.inr ⟨o, by rw [S.H p (S.ne_of h (fun _ z => by cases z))]; exact h⟩)
  · exact .inr h
theorem Shift.flAt (S : Shift A w w') {p : Addr} {vs : List V} (h : FlAt w.K w.H p vs) : FlAt w'.K w'.H p vs := by
  rw [S.K]
  refine h.imp (fun ⟨o, h⟩ => ⟨o, ?_⟩) id
  rw [S.H p (S.ne_of h (fun _ z => by cases z))]
  exact h
mutual
theorem Rep.shift (S : Shift A w w') : ∀ {d : D} {v : V}, Rep w d v → Rep w' d v
  | _, _, .non => .non
  | _, _, .bl => .bl
  | _, _, .int => .int
  | _, _, .str => .str
  | _, _, .lst n h r => .lst (fun z => n (S.lv _ z)) (by rw [S.H _ (S.ne_lv n)]; exact h) (RepL.shift S r)
  | _, _, .tup h r => .tup (by rw [S.H _ (S.ne_of h (fun _ z => by cases z))]; exact h) (RepL.shift S r)
  | _, _, .kt h r => .kt (S.sqT h) (RepL.shift S r)
  | _, _, .fl h => .fl (S.flAt h)
  | _, _, .dk n h l r => .dk (fun z => n (S.lv _ z)) (by rw [S.H _ (S.ne_lv n)]; exact h) l (RepL.shift S r)
  | _, _, .dt n h l r => .dt (fun z => n (S.lv _ z)) (by rw [S.H _ (S.ne_lv n)]; exact h) l (RepL.shift S r)
  | _, _, .obj (dx := dx) n h l r => .obj (dx := dx) (fun z => n (S.lv _ z)) (by rw [S.H _ (S.ne_lv n), S.cl]; exact h) l (RepL.shift S r)
  | _, _, .cel h => (S.adr _ h) ▸ .cel (Nat.lt_of_lt_of_le h S.len)
theorem RepL.shift (S : Shift A w w') : ∀ {ds : List D} {vs : List V}, RepL w ds vs → RepL w' ds vs
  | _, _, .nil => .nil
  | _, _, .cons a b => .cons (Rep.shift S a) (RepL.shift S b)
end
theorem Ext.shift (S : Shift A w w') (ok1 : Wok w1) (h1 : w1.H A = none) (e : Ext w1 w) : Ext w1 w' where
  K := S.K.trans e.K
  cl := S.cl.trans e.cl
  len := Nat.le_trans e.len S.len
  adr := fun k hk => (S.adr k (Nat.lt_of_lt_of_le hk e.len)).trans (e.adr k hk)
  keep := fun a o h n => by
    obtain ⟨q1, q2⟩ := e.keep a o h n
    exact ⟨by rw [S.H a (S.ne_lv q2)]; exact q1, fun z => q2 (S.lv a z)⟩
  tups := fun a xs h => by
    have q := e.tups a xs h
    rw [S.H a (S.ne_of q (fun _ z => by cases z))]
    exact q
  frzs := fun a o u h => by
    have q := e.frzs a o u h
    rw [S.H a (S.ne_of q (fun _ z => by cases z))]
    exact q
  back := fun a h => by
    by_cases z : a = A
    · rw [z]; exact h1
    · rw [S.H a z] at h
      exact e.back a h
  rs := fun a h => S.rs a (e.rs a h) fun z => by
    obtain ⟨o, q⟩ := ok1.rso a h
    rw [z, h1] at q
    cases q
  rsk := fun a h => by
    have z : a ≠ A := fun z => by
      obtain ⟨o, q⟩ := ok1.rso a h
      rw [z, h1] at q
      cases q
    rw [S.H a z]
    exact e.rsk a h
theorem CellOk.shift (S : Shift A w w') {k : Nat} {c : C} (hk : k < w.mem.length) (hne : w.ad k ≠ A) (h : CellOk w k c) : CellOk w' k c := by
  have ha := S.adr k hk
  cases c with
  | lst xs =>
    obtain ⟨vs, h1, r⟩ := h
    exact ⟨vs, by rw [ha, S.H _ hne]; exact h1, r.shift S⟩
  | dk ks ds =>
    obtain ⟨vs, h1, l, r⟩ := h
    exact ⟨vs, by rw [ha, S.H _ hne]; exact h1, l, r.shift S⟩
  | dt ks ds =>
    obtain ⟨vs, h1, l, r⟩ := h
    exact ⟨vs, by rw [ha, S.H _ hne]; exact h1, l, r.shift S⟩
  | ins c fs ds =>
    obtain ⟨dx, vs, h1, l, r⟩ := h
    exact ⟨dx, vs, by rw [ha, S.H _ hne, S.cl]; exact h1, l, r.shift S⟩
theorem lt_of_mem {m : Mem} {k : Nat} {c : Option C} (h : m[k]? = some c) : k < m.length := (List.getElem?_eq_some_iff.mp h).1
theorem Wok.shift (S : Shift A w w') (ok : Wok w) (hA : w.rs A) (hm : w'.mem = w.mem) (hr : ∀ a, w'.rs a → w.rs a) : Wok w' := by
  have ne : ∀ {k c}, w.mem[k]? = some (some c) → w.ad k ≠ A := fun {k c} h z => ok.nrs k c h (z ▸ hA)
  refine ⟨fun k c h => ?_, fun j k c d h1 h2 q => ?_, fun k c h z => ?_, fun a r => ?_⟩
  · rw [hm] at h
    exact (ok.cell k c h).shift S (lt_of_mem h) (ne h)
  · rw [hm] at h1 h2
    rw [S.adr j (lt_of_mem h1), S.adr k (lt_of_mem h2)] at q
    exact ok.inj j k c d h1 h2 q
  · rw [hm] at h
    rw [S.adr k (lt_of_mem h)] at z
    exact ok.nrs k c h (hr _ z)
  · by_cases z : a = A
    · obtain ⟨xs, q⟩ := S.hA'
      exact ⟨_, z ▸ q⟩
    · obtain ⟨o, q⟩ := ok.rso a (hr a r)
      exact ⟨o, by rw [S.H a z]; exact q⟩
/-- hold an address back, an empty list there -/
def Wd.hold (w : Wd) (A : Addr) : Wd := { w with H := upd w.H A (.lst []), rs := fun a => w.rs a ∨ a = A }
theorem Ext.hold (ok : Wok w) (h : w.H A = none) : Ext w (w.hold A) where
  K := rfl
  cl := rfl
  len := Nat.le_refl _
  adr := fun _ _ => rfl
  keep := fun a u e n => ⟨by show upd w.H A _ a = _; rw [upd_ne (ne_of_none e h)]; exact e, fun z => by
    rcases z with z | z | z
    · exact n (.inl z)
    · exact n (.inr z)
    · exact ne_of_none e h z⟩
  tups := fun a xs e => by show upd w.H A _ a = _; rw [upd_ne (ne_of_none e h)]; exact e
  frzs := fun a u x e => by show upd w.H A _ a = _; rw [upd_ne (ne_of_none e h)]; exact e
  back := fun a e => by
    have e1 : upd w.H A (.lst []) a = none := e
    by_cases z : a = A
    · rw [z, upd_same] at e1
      cases e1
    · rw [upd_ne z] at e1
      exact e1
  rs := fun a h => .inl h
  rsk := fun a r => by
    obtain ⟨u, e⟩ := ok.rso a r
    show upd w.H A _ a = _
    rw [upd_ne (ne_of_none e h)]
theorem Wok.hold (ok : Wok w) (h : w.H A = none) : Wok (w.hold A) := by
  have e := Ext.hold ok h
  have hH : ∀ {k c}, w.mem[k]? = some (some c) → w.ad k ≠ A := fun {k c} hk z => by
    obtain ⟨u, q⟩ := ok.live_some hk
    rw [z, h] at q
    cases q
  refine ⟨fun k c hk => ?_, fun j k c d h1 h2 q => ok.inj j k c d h1 h2 q, fun k c hk z => ?_, fun a r => ?_⟩
  · exact (ok.cell k c hk).ext e rfl (by show upd w.H A _ (w.ad k) = _; rw [upd_ne (hH hk)])
  · rcases z with z | z
    · exact ok.nrs k c hk z
    · exact hH hk z
  · by_cases z : a = A
    · exact ⟨[], by rw [z]; exact upd_same⟩
    · obtain ⟨o, q⟩ := ok.rso a (r.resolve_right z)
      exact ⟨o, by show upd w.H A _ a = _; rw [upd_ne z]; exact q⟩
/-- write there -/
def Wd.pen (w : Wd) (A : Addr) (vs : List V) : Wd := { w with H := upd w.H A (.lst vs) }
theorem Shift.pen (hA : w.rs A) {acc vs : List V} (h : w.H A = some (.lst acc)) : Shift A w (w.pen A vs) :=
  ⟨rfl, rfl, Nat.le_refl _, fun _ _ => rfl, fun a z => upd_ne z, ⟨_, h⟩, ⟨_, upd_same⟩, .inr hA, fun _ z => z, fun _ z _ => z⟩
/-- let it go -/
def Wd.free (w : Wd) (A : Addr) : Wd := { w with rs := fun a => w.rs a ∧ a ≠ A }
theorem Shift.free (hA : w.rs A) {acc : List V} (h : w.H A = some (.lst acc)) : Shift A w (w.free A) :=
  ⟨rfl, rfl, Nat.le_refl _, fun _ _ => rfl, fun a z => rfl, ⟨_, h⟩, ⟨_, h⟩, .inr hA, fun a z => z.elim .inl fun q => .inr q.1, fun a z n => ⟨z, n⟩⟩
theorem free_lst (ok : Wok w) (hA : w.rs A) {acc : List V} (h : w.H A = some (.lst acc)) {ds : List D} (r : RepL w ds acc) : Rep (w.free A) (.lst ds) (.ref A) :=
  .lst (fun z => by
    rcases z with ⟨k, c, hk, e⟩ | z
    · exact ok.nrs k c hk (by have e : w.ad k = A := e; rw [e]; exact hA)
    · exact z.2 rfl) h (r.shift (Shift.free hA h))
/-- let it go as a cell -/
def Wd.freeC (w : Wd) (A : Addr) (c : C) : Wd := { w with rs := fun a => w.rs a ∧ a ≠ A, ad := fun j => if j = w.mem.length then A else w.ad j, mem := w.mem ++ [some c] }
theorem Shift.freeC (hA : w.rs A) {acc : List V} (h : w.H A = some (.lst acc)) {c : C} : Shift A w (w.freeC A c) where
  K := rfl
  cl := rfl
  len := by show w.mem.length ≤ (w.mem ++ [some c]).length; simp
  adr := fun k hk => if_neg (Nat.ne_of_lt hk)
  H := fun _ _ => rfl
  hA := ⟨_, h⟩
  hA' := ⟨_, h⟩
  lvA := .inr hA
  lv := fun a z => by
    rcases z with ⟨k, c', hk, ha⟩ | z
    · have hk : (w.mem ++ [some c])[k]? = some (some c') := hk
      have ha : (if k = w.mem.length then A else w.ad k) = a := ha
      by_cases hkl : k = w.mem.length
      · rw [if_pos hkl] at ha
        exact .inr (ha ▸ hA)
      · rw [if_neg hkl] at ha
        have hlt : k < w.mem.length := by
          have := lt_of_mem hk
          simp at this
          omega
        rw [List.getElem?_append_left hlt] at hk
        exact .inl ⟨k, c', hk, ha⟩
    · exact .inr z.1
  rs := fun a z n => ⟨z, n⟩
theorem Wok.freeC (ok : Wok w) (hA : w.rs A) {acc : List V} (h : w.H A = some (.lst acc)) {ds : List D} (r : RepL w ds acc) : Wok (w.freeC A (.lst ds)) := by
  have S := Shift.freeC hA h (c := .lst ds)
  have ne : ∀ {k c}, w.mem[k]? = some (some c) → w.ad k ≠ A := fun {k c} h z => ok.nrs k c h (z ▸ hA)
  have old : ∀ {k : Nat} {c' : C}, (w.mem ++ [some (C.lst ds)])[k]? = some (some c') → k ≠ w.mem.length → w.mem[k]? = some (some c') := fun {k c'} hk hne => by
    have hlt : k < w.mem.length := by
      have := lt_of_mem hk
      simp at this
      omega
    rw [List.getElem?_append_left hlt] at hk
    exact hk
  have ads : (w.freeC A (.lst ds)).ad w.mem.length = A := if_pos rfl
  refine ⟨fun k c' hk => ?_, fun j k c1 c2 h1 h2 q => ?_, fun k c' hk z => ?_, fun a r => ok.rso a r.1⟩
  · have hk : (w.mem ++ [some (C.lst ds)])[k]? = some (some c') := hk
    by_cases hkl : k = w.mem.length
    · subst hkl
      rw [List.getElem?_append_right (Nat.le_refl _), Nat.sub_self] at hk
      cases hk
      exact ⟨acc, by rw [ads]; exact h, r.shift S⟩
    · have z := old hk hkl
      exact (ok.cell k c' z).shift S (lt_of_mem z) (ne z)
  · have h1 : (w.mem ++ [some (C.lst ds)])[j]? = some (some c1) := h1
    have h2 : (w.mem ++ [some (C.lst ds)])[k]? = some (some c2) := h2
    by_cases hj : j = w.mem.length
    · by_cases hk : k = w.mem.length
      · rw [hj, hk]
      · have z := old h2 hk
        rw [hj, ads, S.adr k (lt_of_mem z)] at q
        exact absurd q.symm (ne z)
    · have z1 := old h1 hj
      by_cases hk : k = w.mem.length
      · rw [hk, ads, S.adr j (lt_of_mem z1)] at q
        exact absurd q (ne z1)
      · have z := old h2 hk
        rw [S.adr j (lt_of_mem z1), S.adr k (lt_of_mem z)] at q
        exact ok.inj j k c1 c2 z1 z q
  · have hk : (w.mem ++ [some (C.lst ds)])[k]? = some (some c') := hk
    by_cases hkl : k = w.mem.length
    · rw [hkl, ads] at z
      exact z.2 rfl
    · have y := old hk hkl
      rw [S.adr k (lt_of_mem y)] at z
      exact ok.nrs k c' y z.1
theorem rep_freeC {c : C} : Rep (w.freeC A c) (.cel w.mem.length) (.ref A) := by
  have e : (w.freeC A c).ad w.mem.length = A := if_pos rfl
  have z : Rep (w.freeC A c) (.cel w.mem.length) (.ref ((w.freeC A c).ad w.mem.length)) := .cel (by show w.mem.length < (w.mem ++ [some c]).length; simp)
  rw [e] at z
  exact z
end

/-! ### the comprehension -/
def Dx.noW (G : Dx) : Dx := { G with W := fun _ _ _ _ => False }
def lcGo (s : Src) (tg : TgD) (ft : FT) (fe : FE) (env0 : Env) : Nat → Nat → List D → Mem → R (List D)
  | 0, _, _, _ => .st
  | n + 1, i, acc, m => match s.items m with
    | none => .st
    | some ds => match ds[i]? with
      | none => if ds.length = i then .ok acc m else .st
      | some d => match tg d env0 m with
        | none => .st
        | some e1 => match ft e1 m with
          | .ok b m2 => if b = true then (match fe e1 m2 with
            | .ok y m3 => if acc.length < sizeLine then lcGo s tg ft fe env0 n (i + 1) (acc ++ [y]) m3 else .st
            | _ => .st) else lcGo s tg ft fe env0 n (i + 1) acc m2
          | _ => .st
@[reducible] def lcAll (fi : FI) (vs : List Nat) (tg : TgD) (ft : FT) (fe : FE) : FA := fun env m => (fi env m).bind fun s m1 => lcGo s tg ft fe (wipeE env vs) (s.fuel m1) 0 [] m1
@[reducible] def fLc (fi : FI) (vs : List Nat) (tg : TgD) (ft : FT) (fe : FE) : FE := fun env m => (lcAll fi vs tg ft fe env m).bind fun ds m1 => .ok (.lst ds) m1
/-- .. its list a cell -/
@[reducible] def fLcC (fi : FI) (vs : List Nat) (tg : TgD) (ft : FT) (fe : FE) : FE := fun env m => (lcAll fi vs tg ft fe env m).bind fun ds m1 => .ok (.cel m1.length) (m1 ++ [some (.lst ds)])
def fYes : FT := fun _ m => .ok true m
abbrev DTs (X : Cx) (G : Dx) (ifs : List Expr) (f : FT) : Prop := PTs X ifs (asT X G f)
section
variable {X : Cx} {G : Dx} {elt tge iter c : Expr} {ifs : List Expr} {scope : Scope} {own : List (Str × Nat)} {pos : Pos} {fi : FI} {tg : TgD} {ts : List Nat} {ft : FT} {fe : FE}
theorem dts_nil : DTs X G [] fYes := ⟨fun pins s σ H Q I h => by
  obtain ⟨w, env, A, h⟩ := h
  refine pts_nil.run pins s σ H Q I ?_
  have z := h.here A.rel.ok
  have z : Q true w.H := z
  rw [A.H] at z
  exact z⟩
theorem dts_one (h : DT X G c ft) : DTs X G [c] ft := pts_one h
/-- a comprehension's block -/
abbrev Blk (X : Cx) (scope : Scope) (s : Shared) (H : Hp) (C : Addr) (cl : List (Str × Addr)) (fp : List Addr) : Cx := X.blk s H scope (compEnvC scope cl C X.env) fp
theorem At.cx {X' : Cx} {G' : Dx} {w : Wd} {σ : L2.St} {H : Hp} {env : Env} (A : At X G w σ H env) (hK : X'.K = X.K) (hc : G'.cl = G.cl) (hx : G.xi w → G'.xi w) : At X' G' w σ H env :=
  ⟨by rw [hK]; exact A.K, by rw [hc]; exact A.cl, A.H, A.rel, hx A.xi⟩
/-- what a turn's reading comes to, out of the block -/
theorem lc_word (hts : ∀ t ∈ ts, t ∈ own.map (·.2)) {w : Wd} {env : Env} {σ : L2.St} {H : Hp} {Q : VK} {fin : List D → Mem → R D} (A : At X G w σ H env)
    (hfin : ∀ (w2 : Wd) (L : Addr) (ds : List D) (acc : List V), Ext w w2 → Wok w → w.H L = none → Wok w2 → w2.rs L → w2.H L = some (.lst acc) → RepL w2 ds acc → Out G w σ (PD Q) (fin ds w2.mem) → Q (.ref L) w2.H)
    (h : Out G w σ (fun ds w1 => Out G w σ (PD Q) (fin ds w1.mem)) (lcAll fi (own.map (·.2)) tg ft fe env w.mem)) :
    tLc (asI X G fi) (asG X G.noW tg ts) (asT X G.noW ft) (asE X G.noW fe) (own.map (·.2)) σ H Q := by
  refine ⟨w, env, A, (Out.seq h).imp fun sr w1 e1 ok1 h1 J hJ L hL => ?_⟩
  have A1 := A.go e1 ok1
  have eL := Ext.hold (A := L) ok1 hL
  have okL := Wok.hold (A := L) ok1 hL
  have hwL := e1.back L hL
  have r1 : Rel w1 (L2.wipe σ (own.map (·.2))) (wipeE env (own.map (·.2))) := A1.rel.wipe _
  refine ⟨fun i m H => ∃ w2 ds acc, Ext w1 w2 ∧ Wok w2 ∧ w2.H = H ∧ w2.rs L ∧ w2.H L = some (.lst acc) ∧ RepL w2 ds acc ∧
      Out G w1 σ (fun ds w1 => Out G w σ (PD Q) (fin ds w1.mem)) (lcGo sr tg ft fe (wipeE env (own.map (·.2))) m i ds w2.mem), ⟨_, w1.hold L, [], [], eL, okL, rfl, .inr rfl, upd_same, .nil, h1⟩, ?_⟩
  rintro i m H2 ⟨w2, ds, acc, e2, ok2, rfl, hr2, hL2, r2, h2⟩
  cases m with
  | zero => exact h2.st'.elim
  | succ m =>
    unfold lcGo at h2
    cases hds : sr.items w2.mem with
    | none => rw [hds] at h2; exact h2.st'.elim
    | some its =>
      rw [hds] at h2
      dsimp only at h2
      cases hd : its[i]? with
      | none =>
        rw [hd] at h2
        dsimp only at h2
        by_cases hl : its.length = i
        · rw [if_pos hl] at h2
          refine .inl ⟨by rw [← hl]; exact hJ.stop w2 e2 ok2 its hds, ?_⟩
          exact hfin w2 L ds acc (e1.trans e2) A.rel.ok hwL ok2 hr2 hL2 r2 (h2 w2 e2 rfl ok2)
        · rw [if_neg hl] at h2
          exact h2.st'.elim
      | some d =>
        rw [hd] at h2
        dsimp only at h2
        obtain ⟨z1, z2⟩ := hJ.go w2 e2 ok2 i its d hds hd
        refine .inr ⟨z1, fun H5 => ∃ w5 ds acc, Ext w1 w5 ∧ Wok w5 ∧ w5.H = H5 ∧ w5.rs L ∧ w5.H L = some (.lst acc) ∧ RepL w5 ds acc ∧
          Out G w1 σ (fun ds w1 => Out G w σ (PD Q) (fin ds w1.mem)) (lcGo sr tg ft fe (wipeE env (own.map (·.2))) m (i + 1) ds w5.mem), fun H5 q => ⟨m, Nat.lt_succ_self m, q⟩, fun x H3 y => ?_⟩
        obtain ⟨w3, rfl, e3, hm3, ok3, rx⟩ := z2 x H3 y
        cases ht : tg d (wipeE env (own.map (·.2))) w2.mem with
        | none => rw [ht] at h2; exact h2.st'.elim
        | some env1 =>
          rw [ht] at h2
          dsimp only at h2
          have A3 : At X G.noW w3 (L2.wipe σ (own.map (·.2))) w3.H (wipeE env (own.map (·.2))) :=
            ⟨(e2.trans e3).K.trans A1.K, (e2.trans e3).cl.trans A1.cl, rfl, r1.mono (e2.trans e3) ok3, G.xs _ _ (e2.trans e3) A1.xi⟩
          refine ⟨w3, _, d, env1, A3, rx, by rw [hm3]; exact ht, fun σ3 r3 hw3 => ⟨?_, ?_⟩⟩
          · rw [hw3 _ hts]
            exact wipe_wipe _ fun i hi => hi
          · have A3' : At X G.noW w3 σ3 w3.H env1 := ⟨A3.K, A3.cl, rfl, r3, A3.xi⟩
            refine ⟨w3, env1, A3', ?_⟩
            rw [hm3]
            cases hb : ft env1 w2.mem with
            | ex c f ds m => rw [hb] at h2; exact h2.st'.elim
            | st => rw [hb] at h2; exact h2.st'.elim
            | ok b m2 =>
              rw [hb] at h2
              dsimp only at h2
              intro w4 e4 hm4 ok4
              show if b = true then _ else _
              have hr4 : w4.rs L := e4.rs _ (e3.rs _ hr2)
              have hL4 : w4.H L = some (.lst acc) := by rw [e4.rsk _ (e3.rs _ hr2), e3.rsk _ hr2]; exact hL2
              cases b with
              | false =>
                rw [if_neg Bool.false_ne_true] at h2 ⊢
                exact ⟨w4, ds, acc, e2.trans (e3.trans e4), ok4, rfl, hr4, hL4, r2.mono (e3.trans e4), by rw [hm4]; exact h2⟩
              | true =>
                rw [if_pos rfl] at h2 ⊢
                refine ⟨w4, env1, A3'.go e4 ok4, ?_⟩
                rw [hm4]
                cases hy : fe env1 m2 with
                | ex c f ds m => rw [hy] at h2; exact h2.st'.elim
                | st => rw [hy] at h2; exact h2.st'.elim
                | ok yd m3 =>
                  rw [hy] at h2
                  dsimp only at h2
                  intro w5 e5 hm5 ok5 v rv
                  have hr5 : w5.rs L := e5.rs _ hr4
                  have hL5 : w5.H L = some (.lst acc) := by rw [e5.rsk _ hr4]; exact hL4
                  by_cases hz : ds.length < sizeLine
                  · rw [if_pos hz] at h2
                    refine ⟨acc, hL5, by rw [← r2.len]; exact hz, ?_⟩
                    have S := Shift.pen hr5 hL5 (vs := acc ++ [v])
                    have e25 := e3.trans (e4.trans e5)
                    exact ⟨w5.pen L (acc ++ [v]), ds ++ [yd], acc ++ [v], Ext.shift S ok1 hL (e2.trans e25), Wok.shift S ok5 hr5 rfl fun _ z => z, rfl, hr5, upd_same,
                      RepL.shift S ((r2.mono e25).snoc rv), by show Out G w1 σ _ (lcGo _ _ _ _ _ _ _ _ w5.mem); rw [hm5]; exact h2⟩
                  · rw [if_neg hz] at h2
                    exact h2.st'.elim
theorem Out.base {α β : Type} {w : Wd} {σ : L2.St} {P : β → Wd → Prop} {r : R α} {k : α → Mem → R β} (h : Out G w σ P (r.bind k)) : Out G w σ (fun a w' => Out G w σ P (k a w'.mem)) r := by
  cases r with
  | ok a m =>
    intro w2 e2 hm ok
    have h1 : Out G w σ P (k a m) := h
    rw [hm]
    exact h1
  | ex c fs ds m => exact h
  | st => exact h.elim
theorem fin_lst {w : Wd} {σ : L2.St} {Q : VK} (w2 : Wd) (L : Addr) (ds : List D) (acc : List V) (e : Ext w w2) (ok : Wok w) (hL : w.H L = none) (ok2 : Wok w2) (hr : w2.rs L) (hL2 : w2.H L = some (.lst acc)) (r : RepL w2 ds acc)
    (h : Out G w σ (PD Q) (.ok (.lst ds) w2.mem)) : Q (.ref L) w2.H :=
  h (w2.free L) (Ext.shift (Shift.free hr hL2) ok hL e) rfl (Wok.shift (Shift.free hr hL2) ok2 hr rfl fun _ z => z.1) _ (free_lst ok2 hr hL2 r)
theorem fin_cel {w : Wd} {σ : L2.St} {Q : VK} (w2 : Wd) (L : Addr) (ds : List D) (acc : List V) (e : Ext w w2) (ok : Wok w) (hL : w.H L = none) (ok2 : Wok w2) (hr : w2.rs L) (hL2 : w2.H L = some (.lst acc)) (r : RepL w2 ds acc)
    (h : Out G w σ (PD Q) (.ok (.cel w2.mem.length) (w2.mem ++ [some (.lst ds)]))) : Q (.ref L) w2.H :=
  h (w2.freeC L (.lst ds)) (Ext.shift (Shift.freeC hr hL2) ok hL e) rfl (Wok.freeC ok2 hr hL2 r) _ rep_freeC
/-- what the block's parts are proved to be, in its own context -/
theorem pg_cx {X' : Cx} {e : Expr} (hK : X'.K = X.K) (h : DG X' G e tg ts) : PG X' e (asG X G tg ts) := ⟨fun pins s σ H v u Q I r q => by
  obtain ⟨w, env, d, env', A, z⟩ := q
  exact h.run pins s σ H v u Q I r ⟨w, env, d, env', A.cx hK rfl id, z⟩⟩
theorem pts_cx {X' : Cx} (hK : X'.K = X.K) (h : DTs X' G ifs ft) : PTs X' ifs (asT X G ft) := ⟨fun pins s σ H Q I q => by
  obtain ⟨w, env, A, z⟩ := q
  exact h.run pins s σ H Q I ⟨w, env, A.cx hK rfl id, z⟩⟩
theorem pe_cx {X' : Cx} {e : Expr} (hK : X'.K = X.K) (h : DE X' G e fe) : PE X' e (asE X G fe) := ⟨fun pins s σ H Q I q => by
  obtain ⟨w, env, A, z⟩ := q
  exact h.run pins s σ H Q I ⟨w, env, A.cx hK rfl id, z⟩⟩
theorem pe_imp {e : Expr} {t t' : TE} (h : PE X e t) (i : ∀ σ H Q, t' σ H Q → t σ H Q) : PE X e t' := ⟨fun pins s σ H Q I q => h.run pins s σ H Q I (i σ H Q q)⟩
theorem de_lc (own : List (Str × Nat)) (hc : X.calm = true) (hN : X.N.Nodup) (hi : DI X G tge iter fi) (ok : BlkOk X.N X.env.scope scope own)
    (hg : ∀ (s : Shared) (H : Hp) (C : Addr) (cl : List (Str × Addr)) (fp : List Addr), DG (Blk X scope s H C cl fp) G.noW tge tg ts) (ht : ∀ (s : Shared) (H : Hp) (C : Addr) (cl : List (Str × Addr)) (fp : List Addr), DTs (Blk X scope s H C cl fp) G.noW ifs ft)
    (he : ∀ (s : Shared) (H : Hp) (C : Addr) (cl : List (Str × Addr)) (fp : List Addr), DE (Blk X scope s H C cl fp) G.noW elt fe) (hts : ∀ t ∈ ts, t ∈ own.map (·.2) := by decide) (hs : ∀ x, foldedSetIterable iter X.env x = pure x := by intro _; rfl) :
    DE X G (.ListComp elt [⟨tge, iter, ifs, 0⟩] scope pos) (fLc fi (own.map (·.2)) tg ft fe) :=
  pe_imp (pe_lc hc hN hi ok (fun s H C cl fp => pg_cx rfl (hg s H C cl fp)) (fun s H C cl fp => pts_cx rfl (ht s H C cl fp)) (fun s H C cl fp => pe_cx rfl (he s H C cl fp)) hs) fun σ H Q q => by
    obtain ⟨w, env, A, h⟩ := q
    exact lc_word hts A (fin := fun ds m => .ok (.lst ds) m) fin_lst (Out.base h)
theorem de_lcC (own : List (Str × Nat)) (hc : X.calm = true) (hN : X.N.Nodup) (hi : DI X G tge iter fi) (ok : BlkOk X.N X.env.scope scope own)
    (hg : ∀ (s : Shared) (H : Hp) (C : Addr) (cl : List (Str × Addr)) (fp : List Addr), DG (Blk X scope s H C cl fp) G.noW tge tg ts) (ht : ∀ (s : Shared) (H : Hp) (C : Addr) (cl : List (Str × Addr)) (fp : List Addr), DTs (Blk X scope s H C cl fp) G.noW ifs ft)
    (he : ∀ (s : Shared) (H : Hp) (C : Addr) (cl : List (Str × Addr)) (fp : List Addr), DE (Blk X scope s H C cl fp) G.noW elt fe) (hts : ∀ t ∈ ts, t ∈ own.map (·.2) := by decide) (hs : ∀ x, foldedSetIterable iter X.env x = pure x := by intro _; rfl) :
    DE X G (.ListComp elt [⟨tge, iter, ifs, 0⟩] scope pos) (fLcC fi (own.map (·.2)) tg ft fe) :=
  pe_imp (pe_lc hc hN hi ok (fun s H C cl fp => pg_cx rfl (hg s H C cl fp)) (fun s H C cl fp => pts_cx rfl (ht s H C cl fp)) (fun s H C cl fp => pe_cx rfl (he s H C cl fp)) hs) fun σ H Q q => by
    obtain ⟨w, env, A, h⟩ := q
    exact lc_word hts A (fin := fun ds m => .ok (.cel m.length) (m ++ [some (.lst ds)])) fin_cel (Out.base h)
/-- name = [..] on one line: the name is stored before the block is left -/
theorem set_lc {i : Nat} {y : Str} {py spos : Pos} (own : List (Str × Nat)) (cell : Bool) (hc : X.calm = true) (hN : X.N.Nodup) (hi : DI X G tge iter fi) (ok : BlkOk X.N X.env.scope scope own)
    (hg : ∀ (s : Shared) (H : Hp) (C : Addr) (cl : List (Str × Addr)) (fp : List Addr), DG (Blk X scope s H C cl fp) G.noW tge tg ts) (ht : ∀ (s : Shared) (H : Hp) (C : Addr) (cl : List (Str × Addr)) (fp : List Addr), DTs (Blk X scope s H C cl fp) G.noW ifs ft)
    (he : ∀ (s : Shared) (H : Hp) (C : Addr) (cl : List (Str × Addr)) (fp : List Addr), DE (Blk X scope s H C cl fp) G.noW elt fe) (hy : X.N[i]? = some y) (hyl : X.env.scope.names.lookup y = some .local)
    (hsw : swapsWith (.ListComp elt [⟨tge, iter, ifs, 0⟩] scope pos) (some (.Name y py)) spos.line X.env = pure true) (hts : ∀ t ∈ ts, t ∈ own.map (·.2)) (hs : ∀ x, foldedSetIterable iter X.env x = pure x) :
    DSt X G (.Assign [.Name y py] (.ListComp elt [⟨tge, iter, ifs, 0⟩] scope pos) spos) (fSet i (if cell = true then fLcC fi (own.map (·.2)) tg ft fe else fLc fi (own.map (·.2)) tg ft fe)) := ⟨fun pins s σ H E I q => by
  refine (ps_setLc hc hN hy hyl hsw hi ok (fun s H C cl fp => pg_cx rfl (hg s H C cl fp)) (fun s H C cl fp => pts_cx rfl (ht s H C cl fp)) (fun s H C cl fp => pe_cx rfl (he s H C cl fp)) hs).run pins s σ H E I ?_
  obtain ⟨w, env, A, h⟩ := q
  cases cell with
  | false =>
    refine lc_word hts A (fin := fun ds m => .ok (.lst ds) m) fin_lst (Out.base ((Out.seqS h A.rel).imp fun d w1 e1 ok1 h1 v rv => ?_))
    exact h1 w1 _ (Ext.refl w1) rfl ((A.rel.mono e1 ok1).set i rv)
  | true =>
    refine lc_word hts A (fin := fun ds m => .ok (.cel m.length) (m ++ [some (.lst ds)])) fin_cel (Out.base ((Out.seqS h A.rel).imp fun d w1 e1 ok1 h1 v rv => ?_))
    exact h1 w1 _ (Ext.refl w1) rfl ((A.rel.mono e1 ok1).set i rv)⟩
end
end DL
/-! DL11: defs and their calls; a cell turned to data; what a def leaves behind. -/
namespace DL
open PySem PySem.Spec PyProof.Rows L2

/-! ### a cell becomes data -/
def C.tree : C → D
  | .lst xs => .lst xs
  | .dk ks ds => .dk ks ds
  | .dt ks ds => .dt ks ds
  | .ins c fs ds => .obj c fs ds
@[reducible] def fzD (d : D) (m : Mem) : R D := match d with
  | .cel c => match m[c]? with
    | some (some ct) => .ok ct.tree (m.set c none)
    | _ => .st
  | d => .ok d m
@[reducible] def fFz (fe : FE) : FE := fun env m => (fe env m).bind fun d m1 => fzD d m1
def Wd.kill (w : Wd) (c : Nat) : Wd := { w with mem := w.mem.set c none }
section
variable {w : Wd} {c : Nat}
theorem kill_get {m : Mem} {k : Nat} {x : C} (h : (m.set c none)[k]? = some (some x)) : m[k]? = some (some x) ∧ k ≠ c := by
  by_cases e : c = k
  · subst e
    by_cases hl : c < m.length
    · rw [List.getElem?_set_self hl] at h
      cases h
    · rw [List.getElem?_eq_none (by simpa using hl)] at h
      cases h
  · rw [List.getElem?_set_ne e] at h
    exact ⟨h, fun z => e z.symm⟩
theorem kill_lv {a : Addr} (h : (w.kill c).lv a) : w.lv a := by
  rcases h with ⟨k, x, hk, e⟩ | h
  · exact .inl ⟨k, x, (kill_get hk).1, e⟩
  · exact .inr h
theorem Ext.kill : Ext w (w.kill c) := ⟨rfl, rfl, by show w.mem.length ≤ (w.mem.set c none).length; simp, fun _ _ => rfl, fun a o h n => ⟨h, fun z => n (kill_lv z)⟩, fun _ _ h => h, fun _ _ _ h => h, fun _ h => h, fun _ h => h, fun _ _ => rfl⟩
theorem Wok.kill (ok : Wok w) : Wok (w.kill c) := by
  refine ⟨fun k x hk => ?_, fun j k x y h1 h2 q => ok.inj j k x y (kill_get h1).1 (kill_get h2).1 q, fun k x hk => ok.nrs k x (kill_get hk).1, ok.rso⟩
  exact (ok.cell k x (kill_get hk).1).ext Ext.kill rfl rfl
theorem kill_rep {d : D} {v : V} (r : Rep w d v) : Rep (w.kill c) d v := r.mono Ext.kill
theorem kill_tree (ok : Wok w) {ct : C} (h : w.mem[c]? = some (some ct)) : Rep (w.kill c) ct.tree (.ref (w.ad c)) := by
  have nl : ¬ (w.kill c).lv (w.ad c) := fun z => by
    rcases z with ⟨k, x, hk, e⟩ | z
    · have e : w.ad k = w.ad c := e
      obtain ⟨h1, h2⟩ := kill_get hk
      exact h2 (ok.inj k c x ct h1 h e)
    · exact ok.nrs c ct h z
  have q := ok.cell c ct h
  cases ct with
  | lst xs =>
    obtain ⟨vs, h1, r⟩ := q
    exact .lst nl h1 (r.mono Ext.kill)
  | dk ks ds =>
    obtain ⟨vs, h1, l, r⟩ := q
    exact .dk nl h1 l (r.mono Ext.kill)
  | dt ks ds =>
    obtain ⟨vs, h1, l, r⟩ := q
    exact .dt nl h1 l (r.mono Ext.kill)
  | ins cn fs ds =>
    obtain ⟨dx, vs, h1, l, r⟩ := q
    exact .obj (dx := dx) nl h1 l (r.mono Ext.kill)
end
section
variable {X : Cx} {G : Dx} {e : Expr} {fe : FE}
theorem fz_out {w : Wd} {σ : L2.St} {Q : VK} {d : D} {v : V} (ok : Wok w) (rv : Rep w d v) (h : Out G w σ (PD Q) (fzD d w.mem)) : Q v w.H := by
  cases rv with
  | @cel c hc =>
    have h : Out G w σ (PD Q) (match w.mem[c]? with
      | some (some ct) => .ok ct.tree (w.mem.set c none)
      | _ => .st) := h
    split at h
    · rename_i ct e
      exact h (w.kill c) Ext.kill rfl ok.kill _ (kill_tree ok e)
    · exact h.st'.elim
  | non => exact h w (Ext.refl w) rfl ok _ .non
  | bl => exact h w (Ext.refl w) rfl ok _ .bl
  | int => exact h w (Ext.refl w) rfl ok _ .int
  | str => exact h w (Ext.refl w) rfl ok _ .str
  | lst a b c => exact h w (Ext.refl w) rfl ok _ (.lst a b c)
  | tup b c => exact h w (Ext.refl w) rfl ok _ (.tup b c)
  | kt b c => exact h w (Ext.refl w) rfl ok _ (.kt b c)
  | fl b => exact h w (Ext.refl w) rfl ok _ (.fl b)
  | dk a b c d => exact h w (Ext.refl w) rfl ok _ (.dk a b c d)
  | dt a b c d => exact h w (Ext.refl w) rfl ok _ (.dt a b c d)
  | obj a b c d => exact h w (Ext.refl w) rfl ok _ (.obj a b c d)
theorem de_fz (he : DE X G e fe) : DE X G e (fFz fe) := pe_imp he fun σ H Q q => by
  obtain ⟨w, env, A, h⟩ := q
  exact ⟨w, env, A, (Out.seq h).imp fun d w1 e1 ok1 h1 v rv => fz_out ok1 rv h1⟩
end

/-! ### what a def leaves behind -/
mutual
/-- no cell but the first n -/
def D.low (n : Nat) : D → Bool
  | .cel k => decide (k < n)
  | .lst xs => lowL n xs
  | .tup xs => lowL n xs
  | .kt xs => lowL n xs
  | .dk _ ds => lowL n ds
  | .dt _ ds => lowL n ds
  | .obj _ _ ds => lowL n ds
  | .non => true
  | .bl _ => true
  | .int _ => true
  | .str _ => true
  | .fl _ => true
def lowL (n : Nat) : List D → Bool
  | [] => true
  | d :: ds => d.low n && lowL n ds
end
def C.low (n : Nat) : C → Bool
  | .lst xs => lowL n xs
  | .dk _ ds => lowL n ds
  | .dt _ ds => lowL n ds
  | .ins _ _ ds => lowL n ds
def lowM (n : Nat) : Mem → Bool
  | [] => true
  | none :: m => lowM n m
  | some c :: m => c.low n && lowM n m
theorem lowM_get {n : Nat} : ∀ {m : Mem} {k : Nat} {c : C}, lowM n m = true → m[k]? = some (some c) → c.low n = true
  | [], _, _, _, h => by simp at h
  | none :: m, 0, c, _, h => by simp at h
  | some d :: m, 0, c, hl, h => by
    simp at h
    subst h
    unfold lowM at hl
    rw [Bool.and_eq_true] at hl
    exact hl.1
  | none :: m, k + 1, c, hl, h => lowM_get (m := m) (k := k) (by simpa [lowM] using hl) (by simpa using h)
  | some d :: m, k + 1, c, hl, h => lowM_get (m := m) (k := k) (by unfold lowM at hl; rw [Bool.and_eq_true] at hl; exact hl.2) (by simpa using h)
def Wd.cut (w : Wd) (n : Nat) : Wd := { w with mem := w.mem.take n }
section
variable {w w0 : Wd} {n : Nat}
theorem cut_get {m : Mem} {k : Nat} {x : Option C} (h : (m.take n)[k]? = some x) : m[k]? = some x ∧ k < n := by
  by_cases hk : k < n
  · rw [List.getElem?_take_of_lt hk] at h
    exact ⟨h, hk⟩
  · rw [List.getElem?_eq_none (by simp; omega)] at h
    cases h
theorem cut_lv {a : Addr} (h : (w.cut n).lv a) : w.lv a := by
  rcases h with ⟨k, x, hk, e⟩ | h
  · exact .inl ⟨k, x, (cut_get hk).1, e⟩
  · exact .inr h
mutual
theorem Rep.lowered (hn : n ≤ w.mem.length) : ∀ {d : D} {v : V}, Rep w d v → d.low n = true → Rep (w.cut n) d v
  | _, _, .non, _ => .non
  | _, _, .bl, _ => .bl
  | _, _, .int, _ => .int
  | _, _, .str, _ => .str
  | _, _, .lst a h r, l => .lst (fun z => a (cut_lv z)) h (RepL.lowered hn r (by simpa [D.low] using l))
  | _, _, .tup h r, l => .tup h (RepL.lowered hn r (by simpa [D.low] using l))
  | _, _, .kt h r, l => .kt h (RepL.lowered hn r (by simpa [D.low] using l))
  | _, _, .fl h, _ => .fl h
  | _, _, .dk a h e r, l => .dk (fun z => a (cut_lv z)) h e (RepL.lowered hn r (by simpa [D.low] using l))
  | _, _, .dt a h e r, l => .dt (fun z => a (cut_lv z)) h e (RepL.lowered hn r (by simpa [D.low] using l))
  | _, _, .obj (dx := dx) a h e r, l => .obj (dx := dx) (fun z => a (cut_lv z)) h e (RepL.lowered hn r (by simpa [D.low] using l))
  | .cel k, _, .cel h, l => .cel (by
    have l : k < n := by simpa [D.low] using l
    show k < (w.mem.take n).length
    rw [List.length_take]
    omega)
theorem RepL.lowered (hn : n ≤ w.mem.length) : ∀ {ds : List D} {vs : List V}, RepL w ds vs → lowL n ds = true → RepL (w.cut n) ds vs
  | _, _, .nil, _ => .nil
  | _, _, .cons a b, l => by
    unfold lowL at l
    rw [Bool.and_eq_true] at l
    exact .cons (Rep.lowered hn a l.1) (RepL.lowered hn b l.2)
end
theorem Ext.cut (e : Ext w0 w) (h : w0.mem.length = n) : Ext w0 (w.cut n) := ⟨e.K, e.cl, by show _ ≤ (w.mem.take n).length; rw [List.length_take]; have := e.len; omega, e.adr, fun a o h n => ⟨(e.keep a o h n).1, fun z => (e.keep a o h n).2 (cut_lv z)⟩, e.tups, e.frzs, e.back, e.rs, e.rsk⟩
theorem Wok.cut (ok : Wok w) (hn : n ≤ w.mem.length) (hl : lowM n (w.mem.take n) = true) : Wok (w.cut n) := by
  refine ⟨fun k x hk => ?_, fun j k x y h1 h2 q => ok.inj j k x y (cut_get h1).1 (cut_get h2).1 q, fun k x hk => ok.nrs k x (cut_get hk).1, ok.rso⟩
  have q := ok.cell k x (cut_get hk).1
  have l := lowM_get hl hk
  cases x with
  | lst xs =>
    obtain ⟨vs, h1, r⟩ := q
    exact ⟨vs, h1, r.lowered hn l⟩
  | dk ks ds =>
    obtain ⟨vs, h1, e, r⟩ := q
    exact ⟨vs, h1, e, r.lowered hn l⟩
  | dt ks ds =>
    obtain ⟨vs, h1, e, r⟩ := q
    exact ⟨vs, h1, e, r.lowered hn l⟩
  | ins cn fs ds =>
    obtain ⟨dx, vs, h1, e, r⟩ := q
    exact ⟨dx, vs, h1, e, r.lowered hn l⟩
end
/-- keep: its new cells stay -/
@[reducible] def leaveD (keep : Bool) (n : Nat) (d : D) (m : Mem) : R D := if keep = true then .ok d m else if (d.low n && lowM n (m.take n)) = true then .ok d (m.take n) else .st
@[reducible] def leaveX (keep : Bool) (n : Nat) (c : Str) (fs : List Str) (ds : List D) (m : Mem) : R D := if keep = true then .ex c fs ds m else if (lowL n ds && lowM n (m.take n)) = true then .ex c fs ds (m.take n) else .st
@[reducible] def leaveS (keep : Bool) (n : Nat) : S → R D
  | .nx _ m => leaveD keep n .non m
  | .rt d m => leaveD keep n d m
  | .ex c fs ds _ m => leaveX keep n c fs ds m
  | _ => .st
abbrev Mean := Mem → List D → R D
def startE (nl : Nat) (ds : List D) : Env := ds.map some ++ List.replicate (nl - ds.length) none
/-- np parameters among nl names -/
def fnM (keep : Bool) (np nl : Nat) (fb : FS) : Mean := fun m ds => if ds.length = np then leaveS keep m.length (fb (startE nl ds) m) else .st
/-- the wish of a body -/
def Gf (cl : Str → Addr) (E : XK) : Dx := ⟨cl, fun c d _ H => E c d H, fun _ => True, fun _ _ _ h => h⟩
/-- the promise of a def by its meaning -/
def spD (K : PySem.W.Frag) (cl : Str → Addr) (n : Nat) (g : Mean) : Sp := fun vs H Q E => vs.length = n ∧ ∃ (w : Wd) (ds : List D), w.K = K ∧ w.cl = cl ∧ w.H = H ∧ Wok w ∧ RepL w ds vs ∧ Out (Gf cl E) w [] (PD Q) (g w.mem ds)
theorem Out.slots {α : Type} {cl : Str → Addr} {E : XK} {w : Wd} {σ σ' : L2.St} {P : α → Wd → Prop} {r : R α} (h : Out (Gf cl E) w σ P r) : Out (Gf cl E) w σ' P r := by
  cases r with
  | ok a m => exact h
  | ex c fs ds m => exact h
  | st => exact h
section
variable {P : Program} {wd : World} {K : PySem.W.Frag} {mg : Str → Option Value} {base : Heap} {cl : Str → Addr} {N ps : List Str} {fb : FS}
theorem start_rel {w : Wd} (ok : Wok w) {ds : List D} {vs : List V} (r : RepL w ds vs) : Rel w (L2.start N vs) (startE N.length ds) := by
  have l := r.len
  refine ⟨ok, by unfold L2.start startE; simp [l], fun i d h => ?_⟩
  unfold startE at h
  by_cases hi : i < ds.length
  · rw [List.getElem?_append_left (by simpa using hi), List.getElem?_map] at h
    cases hd : ds[i]? with
    | none => rw [hd] at h; cases h
    | some x =>
      rw [hd] at h
      cases h
      obtain ⟨v, hv, rv⟩ := r.get hd
      refine ⟨v, ?_, rv⟩
      unfold L2.start
      rw [List.getElem?_append_left (by simpa [← l] using hi), List.getElem?_map, hv]
      rfl
  · rw [List.getElem?_append_right (by simpa using hi), List.getElem?_replicate] at h
    split at h <;> cases h
theorem leave_ok {E : XK} {w : Wd} {Q : VK} {σ : L2.St} {keep : Bool} {d : D} {m : Mem} (h : Out (Gf cl E) w σ (PD Q) (leaveD keep w.mem.length d m)) {w' : Wd} (e : Ext w w') (hm : w'.mem = m) (ok : Wok w') {v : V} (rv : Rep w' d v) : Q v w'.H := by
  by_cases hk : keep = true
  · simp only [leaveD, if_pos hk] at h
    exact h w' e hm ok v rv
  · simp only [leaveD, if_neg hk] at h
    by_cases hl : (d.low w.mem.length && lowM w.mem.length (m.take w.mem.length)) = true
    · rw [if_pos hl] at h
      rw [Bool.and_eq_true] at hl
      have hn := e.len
      subst hm
      exact h (w'.cut w.mem.length) (Ext.cut e rfl) rfl (ok.cut hn hl.2) v (rv.lowered hn hl.1)
    · rw [if_neg hl] at h
      exact h.st'.elim
theorem body_ok {CX : CXT} {qual : Str} {scope : Scope} {f : Addr} {cd : Value} {A : Around} {outer : List PySem.Env} {s : Shared} {keep : Bool} {E : XK} {vs : List V} {H : Hp} {Q : VK}
    (h : spD K cl ps.length (fnM keep ps.length N.length fb) vs H Q E) : asS (cxOf CX P wd K mg base N qual scope f cd A outer s H E) (Gf cl E) fb { nx := fun _ H' => Q .non H', rt := Q } (L2.start N vs) H := by
  obtain ⟨hl, w, ds, hK, hc, rfl, ok, rv, h⟩ := h
  have hd : ds.length = ps.length := by rw [rv.len]; exact hl
  unfold fnM at h
  rw [if_pos hd] at h
  refine ⟨w, startE N.length ds, ⟨hK, hc, rfl, start_rel ok rv, trivial⟩, ?_⟩
  cases hr : fb (startE N.length ds) w.mem with
  | nx e m =>
    rw [hr] at h
    exact fun w' σ' e' hm r => leave_ok h e' hm r.ok .non
  | rt d m =>
    rw [hr] at h
    exact fun w' v e' hm ok' rv => leave_ok h e' hm ok' rv
  | bk e m => rw [hr] at h; exact h.st'.elim
  | ct e m => rw [hr] at h; exact h.st'.elim
  | st => rw [hr] at h; exact h.st'.elim
  | ex c fs ds e m =>
    rw [hr] at h
    intro w' σ' dd us e' hm r hx hl2 rr
    by_cases hk : keep = true
    · simp only [leaveS, leaveX, if_pos hk] at h
      exact h w' dd us e' hm r.ok hx hl2 rr
    · simp only [leaveS, leaveX, if_neg hk] at h
      by_cases hlo : (lowL w.mem.length ds && lowM w.mem.length (m.take w.mem.length)) = true
      · rw [if_pos hlo] at h
        rw [Bool.and_eq_true] at hlo
        have hn := e'.len
        subst hm
        exact h (w'.cut w.mem.length) dd us (Ext.cut e' rfl) rfl (r.ok.cut hn hlo.2) hx hl2 (rr.lowered hn hlo.1)
      · rw [if_neg hlo] at h
        exact h.st'.elim
/-- THE RULE of a def -/
theorem fun_ok {x qual : Str} {params : Arguments} {body : List Stmt} {scope : Scope} {f : Addr} {fd : FuncData} {k : Nat} {dvs : List V} {kws : List (Str × V)} (keep : Bool) (F : FunD K x qual params body scope dvs kws f fd) (S : FnScope N ps scope)
    (hbody : ∀ (cdv : Value) (A : Around) (outer : List PySem.Env) (s : Shared) (H : Hp) (E : XK), Room k (A.deeper (envOfC qual scope s.heap.objs.size f cdv)) →
      DSs (cxOf (L2.CX P wd) P wd K mg base N qual scope f cdv A outer s H E) (Gf cl E) body fb) : FnOk P wd K mg base (L2.CX P wd) (k + 1) f fd ps (spD K cl ps.length (fnM keep ps.length N.length fb)) :=
  F.ok S (fun vs H Q E h => h.1) fun cdv A outer s H vs Q E hr h => ⟨_, hbody cdv A outer s H E hr, body_ok h⟩
theorem fun_no {k : Nat} {f : Addr} {fd : FuncData} : FnOk P wd K mg base (L2.CX P wd) k f fd ps (spD K cl ps.length fun _ _ => .st) :=
  ⟨fun vs H Q E h => h.1, fun A outer s H args us vs Q E _ _ _ _ h => by
    obtain ⟨_, w, ds, _, _, _, _, _, z⟩ := h
    exact z.st'.elim⟩
end

/-! ### calls -/
@[reducible] def fApp (g : Mean) (fs : FA) : FE := fun env m => (fs env m).bind fun ds m1 => g m1 ds
/-- .. with defaults behind -/
@[reducible] def fAppD (g : Mean) (dd : List D) (fs : FA) : FE := fun env m => (fs env m).bind fun ds m1 => g m1 (ds ++ dd)
section
variable {X : Cx} {G : Dx} {k n : Nat} {f : Addr} {fd : FuncData} {ps ks : List Str} {g : Mean} {x : Str} {p pos : Pos} {e : Expr} {es : List Expr} {fs fk : FA} {kws : List Keyword} {dvs : List V} {ds : List Value} {dd : List D}
theorem app_out {w : Wd} {σ : L2.St} {env : Env} {H : Hp} {Q : VK} (A : At X G w σ H env) {ds : List D} {vs : List V} (rv : RepL w ds vs) (hn : vs.length = n) (h : Out G w σ (PD Q) (g w.mem ds)) : spD X.K G.cl n g vs w.H Q (WE G.W σ) := by
  refine ⟨hn, w, ds, A.K, A.cl, rfl, A.rel.ok, rv, ?_⟩
  cases hg : g w.mem ds with
  | ok d m => rw [hg] at h; exact h
  | ex c f ds m => rw [hg] at h; exact h
  | st => rw [hg] at h; exact h
/-- only so many arguments -/
def Ar (n : Nat) (g : Mean) : Prop := ∀ m ds, ds.length ≠ n → g m ds = .st
theorem ar_fnM {keep : Bool} {np nl : Nat} {fb : FS} : Ar np (fnM keep np nl fb) := fun m ds h => if_neg h
theorem app_len (ar : Ar n g) {w : Wd} {σ : L2.St} {Q : VK} {ds : List D} {vs : List V} (rv : RepL w ds vs) (h : Out G w σ (PD Q) (g w.mem ds)) : vs.length = n := by
  rw [← rv.len]
  by_cases z : ds.length = n
  · exact z
  · rw [ar _ _ z] at h
    exact h.st'.elim
theorem de_call (ar : Ar n g) (F : FnOk X.prog X.w X.K X.mg X.base (L2.CX X.prog X.w) k f fd ps (spD X.K G.cl n g)) (tk : Takes X G.W) (hr : Room k X.A) (hg : Gl X x) (hm : X.mg x = some (.ref f)) (hk : PySem.W.keepIn X.K (.ref f) = true) (hb : Binds X.K fd ps [])
    (ha : DA X G (e :: es) fs) (hdb : (x == ("__debug__" : Str)) = false := by decide) (he : starEach (e :: es) X.env = (false, eval e X.env) :: starEach es X.env := by rfl) (hpl : (backTo pos (starEach es X.env)).any (·.1) = false := by rfl) :
    DE X G (.Call (.Name x p) (e :: es) [] pos) (fApp g fs) :=
  pe_imp (pe_callSD (E := WE G.W) F hr hg hm hk hb .nil (fun σ => passAt tk σ) ha hdb he hpl) fun σ H Q q => by
    obtain ⟨w, env, A, h⟩ := q
    refine ⟨w, env, A, (Out.seq h).imp fun ds w1 e1 ok1 h1 vs rv => ?_⟩
    have h1 : Out G w1 σ (PD Q) (g w1.mem ds) := h1
    show spD X.K G.cl n g (vs ++ []) w1.H Q (WE G.W σ)
    rw [List.append_nil]
    exact app_out (A.go e1 ok1) rv (app_len ar rv h1) h1
theorem de_call0 (ar : Ar 0 g) (F : FnOk X.prog X.w X.K X.mg X.base (L2.CX X.prog X.w) k f fd ps (spD X.K G.cl 0 g)) (tk : Takes X G.W) (hr : Room k X.A) (hg : Gl X x) (hm : X.mg x = some (.ref f)) (hk : PySem.W.keepIn X.K (.ref f) = true) (hb : Binds X.K fd ps [])
    (hdb : (x == ("__debug__" : Str)) = false := by decide) : DE X G (.Call (.Name x p) [] [] pos) (fApp g aNil) := ⟨fun pins s σ H Q I q => by
  obtain ⟨w, env, A, h⟩ := q
  refine wpAny_Call_Name_kw (ld_glob I hg hm ?_ hdb)
  refine PySem.W.callWith_K0 I.kIn hk (run_fnSD (us := []) (dvs := []) (E := WE G.W) F hr hb .nil (passAt tk σ) I .nil ?_)
  have h1 : Out G w σ (PD Q) (g w.mem []) := h
  rw [← A.H]
  exact app_out (A.self') .nil rfl h1⟩
/-- defaults that are plain values -/
theorem de_callD (ar : Ar n g) (F : FnOk X.prog X.w X.K X.mg X.base (L2.CX X.prog X.w) k f fd ps (spD X.K G.cl n g)) (tk : Takes X G.W) (hr : Room k X.A) (hg : Gl X x) (hm : X.mg x = some (.ref f)) (hk : PySem.W.keepIn X.K (.ref f) = true) (hb : Binds X.K fd ps ds) (hd : Vals dvs ds) (hdd : ∀ w, RepL w dd dvs)
    (ha : DA X G (e :: es) fs) (hdb : (x == ("__debug__" : Str)) = false := by decide) (he : starEach (e :: es) X.env = (false, eval e X.env) :: starEach es X.env := by rfl) (hpl : (backTo pos (starEach es X.env)).any (·.1) = false := by rfl) :
    DE X G (.Call (.Name x p) (e :: es) [] pos) (fAppD g dd fs) :=
  pe_imp (pe_callSD (E := WE G.W) F hr hg hm hk hb hd (fun σ => passAt tk σ) ha hdb he hpl) fun σ H Q q => by
    obtain ⟨w, env, A, h⟩ := q
    refine ⟨w, env, A, (Out.seq h).imp fun ds w1 e1 ok1 h1 vs rv => ?_⟩
    have h1 : Out G w1 σ (PD Q) (g w1.mem (ds ++ dd)) := h1
    exact app_out (A.go e1 ok1) (rv.append (hdd w1)) (app_len ar (rv.append (hdd w1)) h1) h1
/-! keywords: pick i of the given, by place -/
abbrev DK (X : Cx) (G : Dx) (kws : List Keyword) (f : FA) : Prop := PK X kws (asA X G f)
theorem dk_nil : DK X G [] aNil := ⟨fun pos pins s σ H Q I h => by
  obtain ⟨w, env, A, h⟩ := h
  refine pk_nil.run pos pins s σ H Q I ?_
  have z := h.now A rfl [] .nil
  rw [A.H] at z
  exact z⟩
theorem dk_cons {nm : Option Str} {kpos : Pos} {fe : FE} (ha : DE X G e fe) (hr : DK X G kws fs) : DK X G (⟨nm, e, kpos⟩ :: kws) (aCons fe fs) := ⟨fun pos pins s σ H Q I h => by
  obtain ⟨w, env, A, h⟩ := h
  refine (pk_cons ha hr).run pos pins s σ H Q I ?_
  refine ⟨w, env, A, (Out.seq h).imp fun d w1 e1 ok1 h1 v rv => ?_⟩
  refine ⟨w1, env, A.go e1 ok1, (Out.seq h1).imp fun ds w2 e2 ok2 h2 vs rvs => ?_⟩
  exact h2.here ok2 _ (.cons (rv.mono e2) rvs)⟩
/-- the i-th .. of the given values, in the parameters' order -/
def pickAll {α : Type} (is : List Nat) (xs : List α) : List α := is.filterMap fun i => xs[i]?
theorem RepL.pick {w : Wd} {ds : List D} {vs : List V} (r : RepL w ds vs) : ∀ is : List Nat, RepL w (pickAll is ds) (pickAll is vs)
  | [] => .nil
  | i :: is => by
    unfold pickAll
    rw [List.filterMap_cons, List.filterMap_cons]
    cases hd : ds[i]? with
    | none =>
      have hv : vs[i]? = none := by
        rw [List.getElem?_eq_none_iff] at hd ⊢
        rw [← r.len]
        exact hd
      rw [hv]
      exact RepL.pick r is
    | some d =>
      obtain ⟨v, hv, rv⟩ := r.get hd
      rw [hv]
      exact .cons rv (RepL.pick r is)
theorem vals_pick {vs : List V} {us : List Value} (r : Vals vs us) : ∀ is : List Nat, Vals (pickAll is vs) (pickAll is us)
  | [] => .nil
  | i :: is => by
    unfold pickAll
    rw [List.filterMap_cons, List.filterMap_cons]
    cases hd : vs[i]? with
    | none =>
      have hv : us[i]? = none := by
        rw [List.getElem?_eq_none_iff] at hd ⊢
        rw [← r.length]
        exact hd
      rw [hv]
      exact vals_pick r is
    | some d =>
      obtain ⟨v, hv, rv⟩ := r.get hd
      rw [hv]
      exact .cons rv (vals_pick r is)
/-- f(k = v, ..): is the place of each parameter among the keywords -/
structure KwOk (fd : FuncData) (ps ks : List Str) (is : List Nat) : Prop where
  to : ∀ ws : List Value, ws.length = ks.length → bindArgs fd ⟨[], ks.zip ws⟩ = pure (ps.zip (pickAll is ws))
@[reducible] def fAppK (g : Mean) (is : List Nat) (fk : FA) : FE := fun env m => (fk env m).bind fun ds m1 => g m1 (pickAll is ds)
theorem run_fnKD {pins : List (Addr × Obj)} {σ : L2.St} {H : Hp} {s : Shared} {Q : VK} {E : L2.St → XK} {ws : List Value} {zs : List V} {is : List Nat} {sp : Sp} (F : FnOk X.prog X.w X.K X.mg X.base (L2.CX X.prog X.w) k f fd ps sp) (hr : Room k X.A) (hb : KwOk fd ps ks is) (hl : ws.length = ks.length) (hx : PassesAt (L2.CX X.prog X.w) X σ (E σ))
    (I : L2.Inv X pins σ H s) (rz : Vals zs ws) (h : sp (pickAll is zs) H Q (E σ)) : wpAny (model X.prog X.w) X.A (call (.ref f) [] (ks.zip ws)) (EP X pins σ Q) X.xe s := by
  refine wpAny_call (codeAny_mono (F.run X.A X.stack s H ⟨[], ks.zip ws⟩ (pickAll is ws) (pickAll is zs) Q (E σ) hr I.env0 (.of_eq (hb.to ws hl)) (vals_pick rz is) h) fun r s' hq => ?_)
  cases r with
  | error e => exact hx pins H s e s' I hq
  | ok fl =>
    cases fl with
    | ret u => exact I.after hq
    | next => exact False.elim hq
    | brk => exact False.elim hq
    | cont => exact False.elim hq
theorem de_callK {is : List Nat} (ar : Ar n g) (F : FnOk X.prog X.w X.K X.mg X.base (L2.CX X.prog X.w) k f fd ps (spD X.K G.cl n g)) (tk : Takes X G.W) (hr : Room k X.A) (hg : Gl X x) (hm : X.mg x = some (.ref f)) (hk : PySem.W.keepIn X.K (.ref f) = true) (hb : KwOk fd ps ks is) (hlen : kws.length = ks.length)
    (ha : DK X G kws fk) (hfl : ∀ env m ds m', fk env m = .ok ds m' → ds.length = kws.length) (hall : (backToKw pos (keywordEach kws X.env)).all (·.1.isSome) = true := by rfl) (hks : (backToKw pos (keywordEach kws X.env)).filterMap (·.1) = ks := by rfl)
    (hdb : (x == ("__debug__" : Str)) = false := by decide) (hpl : ((backTo pos (starEach [] X.env)).any (·.1) || (backToKw pos (keywordEach kws X.env)).any (·.1.isNone)) = false := by rfl) :
    DE X G (.Call (.Name x p) [] kws pos) (fAppK g is fk) := ⟨fun pins s σ H Q I q => by
  obtain ⟨w, env, A, h⟩ := q
  refine wpAny_Call_Name_kw (ld_glob I hg hm ?_ hdb)
  refine PySem.W.callWith_KW0 (h₀ := X.base) I.ok.mod.kin hk hall (thn (ha.run pos pins s σ H (fun vs H1 => vs.length = ks.length ∧ spD X.K G.cl n g (pickAll is vs) H1 Q (WE G.W σ)) I ⟨w, env, A, ?_⟩) fun ws s2 ⟨zs, H2, I2, rz, hl, q2⟩ => ⟨I2.kIn, ?_⟩) hpl
  · cases hf : fk env w.mem with
    | ex c f ds m =>
      have h : Out G w σ (PD Q) ((fk env w.mem).bind fun ds m1 => g m1 (pickAll is ds)) := h
      rw [hf] at h
      exact h
    | st =>
      have h : Out G w σ (PD Q) ((fk env w.mem).bind fun ds m1 => g m1 (pickAll is ds)) := h
      rw [hf] at h
      exact h
    | ok ds m =>
      have h : Out G w σ (PD Q) ((fk env w.mem).bind fun ds m1 => g m1 (pickAll is ds)) := h
      rw [hf] at h
      intro w1 e1 hm1 ok1 vs rv
      have h1 : Out G w1 σ (PD Q) (g w1.mem (pickAll is ds)) := by rw [hm1]; exact Out.ext h e1
      exact ⟨by rw [← rv.len, hfl _ _ _ _ hf, hlen], app_out (A.go e1 ok1) (rv.pick is) (app_len ar (rv.pick is) h1) h1⟩
  · rw [hks]
    exact run_fnKD (E := WE G.W) F hr hb (by rw [← rz.length]; exact hl) (passAt tk σ) I2 rz q2⟩
end
end DL
/-! DL12: own exceptions: their __init__, raise, try. -/
namespace DL
open PySem PySem.Spec PyProof.Rows L2

/-! ### what the written part says of an exception class -/
def oexB (K : PySem.W.Frag) (C : Addr) : Bool := (match K.lookup C with
  | some ⟨.type "type", _, .cls cd, sl⟩ => (match cd.mro, sl.toList with
    | .ref C' :: bm, [_, _, _, _, some (.builtin n), _] => C' == C && (n == "ValueError.__new__" && (!cd.hasDel && (cd.hasDict && PySem.HandSPX.refsVE bm)))
    | _, _ => false)
  | _ => false) && (He.eqO (PySem.W.findIn K (.ref C) "__setattr__") (some (some (.builtin "object.__setattr__"))) && (decide (PySem.W.subIn K (.ref C) (.type "BaseException") = some true) &&
    (decide (PySem.W.typeIn K (.ref C) = some (.type "type")) && PySem.W.keepIn K (.ref C))))
theorem oexB_ok {K : PySem.W.Frag} {C : Addr} (h : oexB K C = true) : OexC K C := by
  unfold oexB at h
  rw [Bool.and_eq_true, Bool.and_eq_true, Bool.and_eq_true, Bool.and_eq_true] at h
  obtain ⟨h1, h2, h3, h4, h5⟩ := h
  refine ⟨?_, He.eqO_ok h2, of_decide_eq_true h3, of_decide_eq_true h4, h5⟩
  split at h1
  · rename_i dd cd sl ho
    split at h1
    · rename_i C' bm k0 k1 k2 k3 n k5 hm hs
      simp only [Bool.and_eq_true, beq_iff_eq, Bool.not_eq_true'] at h1
      obtain ⟨rfl, rfl, hdel, hdic, hv⟩ := h1
      obtain ⟨nm, bs, mro, ns, qn, hd, sn, sub, ab, col, del⟩ := cd
      dsimp only at hm hdel hdic
      subst hm hdel hdic
      have hsl : sl = #[k0, k1, k2, k3, some (.builtin "ValueError.__new__"), k5] := by
        obtain ⟨l⟩ := sl
        simp only at hs
        rw [hs]
      subst hsl
      exact ⟨nm, qn, ns, bs, bm, sn, sub, ab, col, dd, k0, k1, k2, k3, k5, ho, hv⟩
    · cases h1
  · cases h1
/-- a base class whose __init__ is ValueError's -/
structure BaseI (K : PySem.W.Frag) (B : Addr) : Prop where
  ga : PySem.W.specialIn K (.ref B) "__getattribute__" = some (some (.builtin "type.__getattribute__"))
  rd : PySem.W.readsIn K B (.type "type") = true
  fc : PySem.W.findCls K (.ref B) (.type "type") "__init__" = some (.val (.builtin "ValueError.__init__"))
  hd : PySem.W.handedIn (.builtin "ValueError.__init__") = true
def baseB (K : PySem.W.Frag) (B : Addr) : Bool := He.eqO (PySem.W.specialIn K (.ref B) "__getattribute__") (some (some (.builtin "type.__getattribute__"))) && (PySem.W.readsIn K B (.type "type") &&
  (match PySem.W.findCls K (.ref B) (.type "type") "__init__" with
    | some (.val (.builtin n)) => n == "ValueError.__init__"
    | _ => false))
theorem baseB_ok {K : PySem.W.Frag} {B : Addr} (h : baseB K B = true) : BaseI K B := by
  unfold baseB at h
  rw [Bool.and_eq_true, Bool.and_eq_true] at h
  obtain ⟨h1, h2, h3⟩ := h
  refine ⟨He.eqO_ok h1, h2, ?_, by decide +kernel⟩
  split at h3
  · rename_i n e
    rw [e, beq_iff_eq.mp h3]
  · cases h3
/-! ### the __init__ of such a class -/
section
variable {X : Cx} {o e : Expr} {es : List Expr} {ta : TA} {x : Str} {p1 p2 pos : Pos} {B : Addr}
theorem pe_baseinit {pl : Sem Bool} (hg : Gl X x) (hm : X.mg x = some (.ref B)) (T : BaseI X.K B) (ha : PA X (e :: es) ta) (hdb : (x == ("__debug__" : Str)) = false := by decide)
    (hc : eval (.Call (.Attribute (.Name x p1) "__init__" p2) (e :: es) [] pos) X.env = (do
      let ov ← eval (.Name x p1) X.env
      standAt p2.atName
      let (f, first) ← holding [ov] (getMethod ov "__init__" pl)
      callWith pos f first (backTo pos (starEach (e :: es) X.env)) (backToKw pos (keywordEach [] X.env))) := by rfl)
    (he : starEach (e :: es) X.env = (false, eval e X.env) :: starEach es X.env := by rfl) (hpl : (backTo pos (starEach es X.env)).any (·.1) = false := by rfl) :
    PE X (.Call (.Attribute (.Name x p1) "__init__" p2) (e :: es) [] pos) (tVeI X.K ta) := by
  refine ⟨fun pins s σ H Q I h => ?_⟩
  refine PySem.W.methodCall_KW (ld_glob I hg hm ?_ hdb) hc
  refine PySem.W.method_cls I.kIn T.ga (PySem.W.cls_value I.kIn T.rd T.fc T.hd ?_)
  show wpAny _ _ (callWith pos (Value.builtin "ValueError.__init__") [] (backTo pos (starEach (e :: es) X.env)) []) _ _ _
  refine PyProof.Rows.callWith_method1 (thn (ha.run pos pins _ σ H _ (I.tok _) h) fun us s1 ⟨vs, H1, I1, r1, a, C, ws, ev, hl, T, ea, q⟩ => ?_) he hpl
  subst ev
  cases r1 with
  | @cons _ u0 _ ur ra rw' =>
    obtain rfl : u0 = Value.ref a := ra
    have hlen : ur.length ≤ sizeLine := by
      rw [← Paired.length rw', sizeLine_eq]
      omega
    exact oinit_ok T I1 ea hlen fun s' J => ⟨.non, H1, J, rfl, q⟩
end
/-- the promise of __init__(self, given): one field -/
def spXI (K : PySem.W.Frag) (fld : Str) : Sp := fun vs H Q _ => ∃ (a C : Addr) (v : V), vs = [.ref a, v] ∧ OexC K C ∧ PySem.W.findIn K (.ref C) fld = some none ∧ H a = some (exo a C none) ∧
  ∀ dx, H dx = none → dx ≠ a → Q .non (upd (upd H dx (exd dx [(fld, v)])) a (exo a C (some dx)))
def tXI (K : PySem.W.Frag) (fld msg : Str) : TS := tSeq (tDrop (tVeI K (tCons (tVar 0) (tCons (tC (.str msg)) tNil)))) (tOst K fld (tVar 0) (tVar 1))
section
variable {P : Program} {wd : World} {K : PySem.W.Frag} {mg : Str → Option Value} {base : Heap}
theorem xinit_ok {x qual : Str} {params : Arguments} {body : List Stmt} {scope : Scope} {f : Addr} {fd : FuncData} {N ps : List Str} {fld msg : Str} {dvs : List V} {kws : List (Str × V)} (F : FunD K x qual params body scope dvs kws f fd) (S : FnScope N ps scope) (hN : N.length = 2) (hp : ps.length = 2)
    (hbody : ∀ (cdv : Value) (A : Around) (outer : List PySem.Env) (s : Shared) (H : Hp) (E : XK), PSs (cxOf (L2.CX P wd) P wd K mg base N qual scope f cdv A outer s H E) body (tXI K fld msg)) :
    FnOk P wd K mg base (L2.CX P wd) 1 f fd ps (spXI K fld) := by
  refine F.ok (k := 0) S (fun vs H Q E h => ?_) fun cdv A outer s H vs Q E hr h => ⟨_, hbody cdv A outer s H E, ?_⟩
  · obtain ⟨a, C, v, rfl, _⟩ := h
    exact hp.symm
  · obtain ⟨a, C, v, rfl, T, hno, ha, q⟩ := h
    have e0 : (L2.start N [V.ref a, v])[0]? = some (some (V.ref a)) := rfl
    have e1 : (L2.start N [V.ref a, v])[1]? = some (some v) := rfl
    exact ⟨.ref a, e0, a, C, [.str msg], rfl, Nat.succ_le_of_lt (by decide), T, ha, v, e1, .ref a, e0, a, C, rfl, T, hno, .inl ⟨ha, q⟩⟩
end

/-! ### raise C(e) -/
/-- what is known of an own exception class -/
structure XCls (P : Program) (wd : World) (K : PySem.W.Frag) (mg : Str → Option Value) (base : Heap) (fld : Str) (C : Addr) : Prop where
  ox : OexC K C
  no : PySem.W.findIn K (.ref C) fld = some none
  ini : ∃ (fI : Addr) (fd : FuncData) (ps : List Str), PySem.W.findIn K (.ref C) "__init__" = some (some (.ref fI)) ∧ PySem.W.typeIn K (.ref fI) = some (.type "function") ∧ FnOk P wd K mg base (L2.CX P wd) 1 fI fd ps (spXI K fld) ∧ L2.Binds K fd ps []
@[reducible] def fRaise (c fld : Str) (fe : FE) : FS := fun env m => (fe env m).bindS env fun d m1 => .ex c [fld] [d] env m1
section
variable {X : Cx} {G : Dx} {e : Expr} {fe : FE} {x c fld : Str} {p pos pos2 : Pos}
theorem xd_H {H1 : Hp} {a dx C : Addr} {fs : List (Str × V)} (ha : H1 a = none) (hd : H1 dx = none) (ne : dx ≠ a) : upd (del (upd (upd (upd H1 a (exo a C none)) dx (exd dx fs)) a (exo a C (some dx))) a) dx (.xd fs) = upd H1 dx (.xd fs) := by
  funext b
  by_cases h : b = dx
  · rw [h, upd_same, upd_same]
  · rw [upd_ne h, upd_ne h]
    by_cases h2 : b = a
    · rw [h2, del_same, ha]
    · rw [del_ne h2, upd_ne h2, upd_ne h, upd_ne h2]
theorem ds_raise (T : XCls X.prog X.w X.K X.mg X.base fld (G.cl c)) (hc : X.calm = true) (tk : Takes X G.W) (hr : Room 2 X.A) (hg : Gl X x) (hm : X.mg x = some (.ref (G.cl c))) (he : DE X G e fe) (hdb : (x == ("__debug__" : Str)) = false := by decide) (hst : starEach (e :: []) X.env = (false, eval e X.env) :: starEach [] X.env := by rfl) (hpl : (backTo pos (starEach [] X.env)).any (·.1) = false := by rfl) :
    DSt X G (.Raise (some (.Call (.Name x p) [e] [] pos)) none pos2) (fRaise c fld fe) := ⟨fun pins s σ H E I q => by
  obtain ⟨fI, fd, ps, iC, tI, F1, hb⟩ := T.ini
  refine (ps_raise hc tk (pmk_oex T.ox iC tI F1 hr hb .nil passL hg hm (pa_cons he pa_nil hst) hdb hst hpl)).run pins s σ H E I ?_
  obtain ⟨w, env, A, h⟩ := q
  refine ⟨w, env, A, (Out.seqS h A.rel).imp fun d w1 e1 ok1 h1 v rv => ?_⟩
  refine ⟨Nat.succ_le_of_lt (show 0 < 1000 by decide), fun a ha => ⟨a, G.cl c, v, rfl, T.ox, T.no, upd_same, fun dx hdx ne => ⟨rfl, dx, [(fld, v)], upd_same, ?_, ?_, ?_⟩⟩⟩
  · rw [upd_ne ne, upd_same]
  · rw [upd_ne ne] at hdx
    exact hdx
  · rw [upd_ne ne] at hdx
    rw [xd_H ha hdx ne]
    have ex := Ext.put (o := .xd [(fld, v)]) ok1 hdx
    exact h1 (w1.put dx _) σ dx [v] ex rfl (A.rel.mono (e1.trans ex) (ok1.put hdx)) upd_same rfl (.cons (rv.mono ex) .nil)⟩
end

/-! ### try -/
/-- clauses: «except c as n» (slot i) or «except c» -/
def endM (o : Option Nat) (D : Ends) : Ends := match o with
  | none => D
  | some i => { nx := fun σ H => D.nx (σ.set i none) H, rt := D.rt, bk := fun σ H => D.bk (σ.set i none) H, ct := fun σ H => D.ct (σ.set i none) H }
def preM (o : Option Nat) (σ : L2.St) (a : Addr) : L2.St := match o with
  | none => σ
  | some i => σ.set i (some (.ref a))
def wMix (K : PySem.W.Frag) (Wout : WX) (D : Ends) : List (Value × Option Nat × (Addr → Value → Option Addr → TS)) → WX
  | [] => Wout
  | (c, o, ts) :: r => fun cls d σ H => ∃ b, PySem.W.exmOne K cls c = some b ∧ (b = true → ∀ a, H a = none → ts a cls d (endM o D) (preM o σ a) H) ∧ (b = false → wMix K Wout D r cls d σ H)
inductive MixOk (X : Cx) : List ExceptHandler → List (Value × Option Nat × (Addr → Value → Option Addr → TS)) → Prop
  | nil : MixOk X [] []
  | bare {x : Str} {c : Value} {ts : Addr → Value → Option Addr → TS} {b₀ : Stmt} {suite : List Stmt} {np pos' : Pos} {hds : List ExceptHandler} {l : List (Value × Option Nat × (Addr → Value → Option Addr → TS))} (hc : Names X x c)
      (hsu : ∀ (a : Addr) (oe : Obj) (cls : Value) (d : Option Addr) (pn : List (Addr × Obj)), Zc cls d oe → (∃ vs, oe.data = .fields vs) → PSs (X.suite a ((a, oe) :: pn)) (b₀ :: suite) (ts a cls d)) (r : MixOk X hds l) :
      MixOk X (.ExceptHandler (some (.Name x np)) none (b₀ :: suite) pos' :: hds) ((c, none, ts) :: l)
  | as {x n : Str} {i : Nat} {c : Value} {ts : Addr → Value → Option Addr → TS} {b₀ : Stmt} {suite : List Stmt} {np pos' : Pos} {hds : List ExceptHandler} {l : List (Value × Option Nat × (Addr → Value → Option Addr → TS))} (hc : Names X x c)
      (hi : X.N[i]? = some n) (hln : X.env.kindOf n = some .local)
      (hsu : ∀ (a : Addr) (oe : Obj) (cls : Value) (d : Option Addr) (pn : List (Addr × Obj)), Zc cls d oe → (∃ vs, oe.data = .fields vs) → PSs (X.suite a ((a, oe) :: pn)) (b₀ :: suite) (ts a cls d)) (r : MixOk X hds l) :
      MixOk X (.ExceptHandler (some (.Name x np)) (some n) (b₀ :: suite) pos' :: hds) ((c, some i, ts) :: l)
section
variable {X : Cx} {body : List Stmt} {h₀ : ExceptHandler} {hds : List ExceptHandler} {l : List (Value × Option Nat × (Addr → Value → Option Addr → TS))} {pos : Pos} {tb : WX → TS} {Wout : WX}
theorem ps_try_mix (hst : X.stack = X.env :: X.outer) (hf : X.env.frame = some X.env.locals) (hN : X.N.Nodup) (tk : Takes X Wout)
    (hbo : ∀ (W : WX) (pn : List (Addr × Obj)) (xe : Value → Shared → Prop), Takes (X.tr pn xe) W → PassesOwn (model X.prog X.w) X.A X.env xe → PSs (X.tr pn xe) body (tb W))
    (hmx : MixOk X (h₀ :: hds) l) : PS X (.Try body (h₀ :: hds) [] [] pos) (fun D σ H => tb (wMix X.K Wout D l) D σ H) := by
  refine ⟨fun pins s σ H D I word => ?_⟩
  have xok := I.ok
  have fra : X.A.frames = some (X.env :: X.outer) := by rw [xok.frames, hst]
  refine wpAny_Try_except (wpAny_mono ((hbo (wMix X.K Wout D l) (X.pn ++ pins) (fun e s₁ => wpAny (model X.prog X.w) X.A (noteFrame e X.env) (fun _ s₂ => wpAny (model X.prog X.w) X.A (setFlight e none) (fun _ s₃ =>
    wpAny (model X.prog X.w) X.A (handleBy e X.env (h₀ :: hds)) (SP X pins D) X.xe s₃) X.xe s₂) X.xe s₁) (fun u s' air => ?_) PassesOwn.looking).run [] s σ H D (I.toTry _) word) (fun fl s1 sp => ?_) (fun e s1 he => he))
  · obtain ⟨a, B, sI, pins', σ', H', cls, d, rfl, JT, nb, up, sky, na, os, ag, wish⟩ := air
    have J : L2.Inv X pins σ' H' sI := JT.ofTry xok
    have sky' : Sky B (X.env :: X.outer) a (Zc cls d) X.env.locals s'.heap := by rw [← hst]; exact sky
    show wpAny (model X.prog X.w) X.A (noteFrame (.ref a) X.env) _ _ _
    refine Sky.land Zc.steady fra hf sky' fun h3 fly up3 => ?_
    have J3 : L2.Inv X pins σ' H' { s' with heap := h3 } := J.landed nb fly.1 (up.trans up3) os ag
    obtain ⟨oe3, vs3, he3, hz3, hd3⟩ := fly.there
    have notFrame : a ∉ frs (X.env :: X.outer) := fun hm => by
      obtain ⟨_, o', e', hnf⟩ := fly.2.2.1.mem hm
      rw [he3] at e'
      cases e'
      exact hnf _ hd3
    have nL : a ≠ X.env.locals := fun z => notFrame (List.mem_filterMap.mpr ⟨X.env, List.mem_cons_self, by rw [hf, z]⟩)
    have nF : a ∉ X.fs := fun hm => by
      obtain ⟨e, he, q⟩ := List.mem_filterMap.mp hm
      exact notFrame (List.mem_filterMap.mpr ⟨e, List.mem_cons_of_mem _ he, q⟩)
    have S3 := J3.suite he3 hd3 na nL nF
    have LT : PySem.W.Looks (model X.prog X.w) h3 (typeOf (.ref a)) cls := fun A Q E s k q => wpAny_typeOf_ref (k _ _ he3) (by rw [hz3.1]; exact q)
    have name : ∀ {x : Str} {np : Pos} {c : Value} {Q : Value → Shared → Prop} {E : Value → Shared → Prop}, Names X x c → Q c { s' with heap := h3 } → wpAny (model X.prog X.w) (X.A.mark (some (.ref a))) (eval (.Name x np) X.env) Q E { s' with heap := h3 } := fun {x np c Q E} hc q => by
      obtain ⟨hg, hdbg, hm | ⟨hm, hv, hnn⟩⟩ := hc
      · exact ld_glob (X := X.suite a ((a, oe3) :: (X.pn ++ pins))) S3 hg hm q hdbg
      · exact ld_blt (X := X.suite a ((a, oe3) :: (X.pn ++ pins))) S3 hg hm hv q hnn hdbg
    have walk : ∀ {hs2 : List ExceptHandler} {l2 : List (Value × Option Nat × (Addr → Value → Option Addr → TS))}, MixOk X hs2 l2 → wMix X.K Wout D l2 cls d σ' H' → wpAny (model X.prog X.w) X.A (handleBy (.ref a) X.env hs2) (SP X pins D) X.xe { s' with heap := h3 } := by
      intro hs2 l2 mk
      induction mk with
      | nil =>
        intro out
        refine wpAny_handleBy_nil ?_
        obtain ⟨k1, k2, k3, oe, vs, T, oT, ts', he, hz, hd, h1, hr⟩ := id fly
        unfold PySem.passOn
        refine wpAny_bind (wpAny_field he hd h1 ?_)
        rw [if_neg (show ¬ ((Value.ref T == Value.none) = true) from by simp)]
        have away : wpAny (model X.prog X.w) X.A (setFlight (.ref a) X.env.frame) (fun _ s4 => wpAny (model X.prog X.w) X.A (throw (.ref a) : Sem Flow) (SP X pins D) X.xe s4) X.xe { s' with heap := h3 } := by
          rw [hf]
          refine HandSPX.setFlight_upZ fly fun h4 hh4 up4 => wpAny_throw (tk _ _ ?_)
          exact ⟨a, B, sI, pins, σ', H', cls, d, rfl, J, nb, (up.trans up3).trans up4, .inr (.inr (by rw [hst]; exact hh4)), na, os, ag, out⟩
        first
          | exact wpAny_bind (wpAny_pure (wpAny_bind away))
          | exact wpAny_bind away
      | @bare x c ts b₀ suite np pos' hds2 l3 hc hsu r ih =>
        intro out
        obtain ⟨b, hit, yes, no⟩ := out
        refine wpAny_handleBy_cons (codeAny_handlers_test (name hc ((PySem.W.exm_one (M := model X.prog X.w) J3.kIn LT hit).here ?_))) (by intro q; cases q)
        cases b with
        | false => exact ih (no rfl)
        | true =>
          refine codeAny_handlers_suite (HandSPX.lands_againZ fly fun h4 fl4 up4 => ?_)
          have J4 : L2.Inv X pins σ' H' { s' with heap := h4 } := J.landed nb fl4.1 ((up.trans up3).trans up4) os ag
          obtain ⟨oe4, vs4, he4, hz4, hd4⟩ := fl4.there
          refine wpAny_mono ((hsu a oe4 cls d (X.pn ++ pins) hz4 ⟨_, hd4⟩).run [] _ _ H' _ (J4.suite he4 hd4 na nL nF) (yes rfl a na)) (fun fl s6 sp => ?_) (fun _ _ z => z.elim)
          cases fl with
          | next => obtain ⟨σ6, H6, S6, q6⟩ := sp; exact ⟨_, _, S6.unsuite xok, q6⟩
          | brk => obtain ⟨σ6, H6, S6, q6⟩ := sp; exact ⟨_, _, S6.unsuite xok, q6⟩
          | cont => obtain ⟨σ6, H6, S6, q6⟩ := sp; exact ⟨_, _, S6.unsuite xok, q6⟩
          | ret u => obtain ⟨v6, σ6, H6, S6, r6, q6⟩ := sp; exact ⟨_, _, _, S6.unsuite xok, r6, q6⟩
      | @as x n i c ts b₀ suite np pos' hds2 l3 hc hi hln hsu r ih =>
        intro out
        obtain ⟨b, hit, yes, no⟩ := out
        refine wpAny_handleBy_cons (codeAny_handlers_test (name hc ((PySem.W.exm_one (M := model X.prog X.w) J3.kIn LT hit).here ?_))) (by intro q; cases q)
        cases b with
        | false => exact ih (no rfl)
        | true =>
          refine codeAny_handlers_suite_as (HandSPX.lands_againZ fly fun h4 fl4 up4 => ?_)
          have J4 : L2.Inv X pins σ' H' { s' with heap := h4 } := J.landed nb fl4.1 ((up.trans up3).trans up4) os ag
          obtain ⟨oe4, vs4, he4, hz4, hd4⟩ := fl4.there
          refine store_ok (X := X.suite a ((a, oe4) :: (X.pn ++ pins))) (v := .ref a) (J4.suite he4 hd4 na nL nF) hN hi (.inl hln) rfl (fun s5 S5 => ?_) (.inr hln)
          refine wpAny_mono ((hsu a oe4 cls d (X.pn ++ pins) hz4 ⟨_, hd4⟩).run [] s5 _ H' _ S5 (yes rfl a na)) (fun fl s6 sp => ?_) (fun _ _ z => z.elim)
          have gone : ∀ {σ6 : L2.St} {H6 : Hp} {Q : Shared → Prop}, L2.Inv (X.suite a ((a, oe4) :: (X.pn ++ pins))) [] σ6 H6 s6 → (∀ s7, L2.Inv X pins (σ6.set i none) H6 s7 → Q s7) →
              wpAny (model X.prog X.w) X.A (do bindName X.env n .none; unbindBehindTheSuite X.env n pos') (fun _ s7 => Q s7) X.xe s6 := fun {σ6 H6 Q} S6 hq => gone_ok (S6.unsuite xok) hN hi hln hq
          cases fl with
          | next => obtain ⟨σ6, H6, S6, q6⟩ := sp; exact gone S6 fun s7 J7 => ⟨_, H6, J7, q6⟩
          | brk => obtain ⟨σ6, H6, S6, q6⟩ := sp; exact gone S6 fun s7 J7 => ⟨_, H6, J7, q6⟩
          | cont => obtain ⟨σ6, H6, S6, q6⟩ := sp; exact gone S6 fun s7 J7 => ⟨_, H6, J7, q6⟩
          | ret u => obtain ⟨v6, σ6, H6, S6, r6, q6⟩ := sp; exact gone S6 fun s7 J7 => ⟨v6, _, H6, J7, r6, q6⟩
    exact walk hmx wish
  · cases fl with
    | next => obtain ⟨σ', H', J', q⟩ := sp; exact wpAny_execs_nil ⟨σ', H', J'.ofTry xok, q⟩
    | brk => obtain ⟨σ', H', J', q⟩ := sp; exact ⟨σ', H', J'.ofTry xok, q⟩
    | cont => obtain ⟨σ', H', J', q⟩ := sp; exact ⟨σ', H', J'.ofTry xok, q⟩
    | ret u => obtain ⟨v, σ', H', J', r, q⟩ := sp; exact ⟨v, σ', H', J'.ofTry xok, r, q⟩
end

/-! try, in plain data -/
structure Cl where
  c : Str
  o : Option Nat
  f : Nat → Str → List Str → List D → FS
def preE (o : Option Nat) (e : Env) (k : Nat) : Env := match o with
  | none => e
  | some i => e.set i (some (.cel k))
def endE (o : Option Nat) (e : Env) : Env := match o with
  | none => e
  | some i => e.set i none
@[reducible] def endS (o : Option Nat) : S → S
  | .nx e m => .nx (endE o e) m
  | .bk e m => .bk (endE o e) m
  | .ct e m => .ct (endE o e) m
  | .rt d m => .rt d m
  | _ => .st
def tryGo (hit : Str → Str → Bool) (c : Str) (fs : List Str) (ds : List D) (e : Env) (m : Mem) : List Cl → S
  | [] => .ex c fs ds e m
  | x :: r => if hit c x.c = true then endS x.o (x.f m.length c fs ds (preE x.o e m.length) (m ++ [none])) else tryGo hit c fs ds e m r
@[reducible] def fTry (xs : List Str) (hit : Str → Str → Bool) (cls : List Cl) (fb : FS) : FS := fun env m => match fb env m with
  | .ex c fs ds e m1 => if c ∈ xs then tryGo hit c fs ds e m1 cls else .st
  | r => r
theorem xd_nlv {w : Wd} (ok : Wok w) {dd : Addr} {fs : List (Str × V)} (h : w.H dd = some (.xd fs)) : ¬ w.lv dd := fun z => by
  rcases z with ⟨k, c, hk, e⟩ | z
  · have q := ok.cell k c hk
    rw [← e] at h
    cases c with
    | lst xs => obtain ⟨vs, h1, _⟩ := q; rw [h1] at h; cases h
    | dk ks ds => obtain ⟨vs, h1, _⟩ := q; rw [h1] at h; cases h
    | dt ks ds => obtain ⟨vs, h1, _⟩ := q; rw [h1] at h; cases h
    | ins c fs ds => obtain ⟨dx, vs, h1, _⟩ := q; rw [h1] at h; cases h
  · obtain ⟨xs, q⟩ := ok.rso dd z
    rw [q] at h
    cases h
/-- what a suite knows of the caught exception: its class, its dict, the dead cell that stands for it -/
def Dx.sx (G : Dx) (k : Nat) (a : Addr) (c : Str) (fs : List Str) (ds : List D) (cls : Value) (d : Option Addr) : Dx :=
  ⟨G.cl, fun _ _ _ _ => False, fun w => (k < w.mem.length ∧ w.ad k = a) ∧ ∃ dd vs, cls = .ref (w.cl c) ∧ d = some dd ∧ ¬ w.lv dd ∧ w.H dd = some (.xd (fs.zip vs)) ∧ fs.length = ds.length ∧ RepL w ds vs,
    fun w w' e ⟨⟨h1, h2⟩, dd, vs, h3, h4, h5, h6, h7, h8⟩ => ⟨⟨Nat.lt_of_lt_of_le h1 e.len, by rw [e.adr k h1]; exact h2⟩, dd, vs, by rw [e.cl]; exact h3, h4, (e.keep _ _ h6 h5).2, (e.keep _ _ h6 h5).1, h7, h8.mono e⟩⟩
def Dx.wW (G : Dx) (W : WX) : Dx := { G with W := W }
/-- a dead cell for an address -/
def Wd.dead (w : Wd) (a : Addr) : Wd := { w with ad := fun j => if j = w.mem.length then a else w.ad j, mem := w.mem ++ [none] }
section
variable {w : Wd} {a : Addr}
theorem dead_get {k : Nat} {c : C} (h : (w.mem ++ [none])[k]? = some (some c)) : w.mem[k]? = some (some c) ∧ k < w.mem.length := by
  by_cases hk : k < w.mem.length
  · rw [List.getElem?_append_left hk] at h
    exact ⟨h, hk⟩
  · rw [List.getElem?_append_right (by omega)] at h
    by_cases hz : k - w.mem.length = 0
    · rw [hz] at h
      cases h
    · rw [List.getElem?_eq_none (by simp; omega)] at h
      cases h
theorem dead_ad {k : Nat} (h : k < w.mem.length) : (w.dead a).ad k = w.ad k := if_neg (Nat.ne_of_lt h)
theorem dead_lv {b : Addr} (h : (w.dead a).lv b) : w.lv b := by
  rcases h with ⟨k, c, hk, e⟩ | h
  · obtain ⟨h1, h2⟩ := dead_get (w := w) hk
    rw [dead_ad h2] at e
    exact .inl ⟨k, c, h1, e⟩
  · exact .inr h
theorem Ext.dead : Ext w (w.dead a) := ⟨rfl, rfl, by show w.mem.length ≤ (w.mem ++ [none]).length; simp, fun k h => dead_ad h, fun b o h n => ⟨h, fun z => n (dead_lv z)⟩, fun _ _ h => h, fun _ _ _ h => h, fun _ h => h, fun _ h => h, fun _ _ => rfl⟩
theorem Wok.dead (ok : Wok w) : Wok (w.dead a) := by
  refine ⟨fun k x hk => ?_, fun j k x y h1 h2 q => ?_, fun k x hk => ?_, ok.rso⟩
  · obtain ⟨h1, h2⟩ := dead_get (w := w) hk
    exact (ok.cell k x h1).ext Ext.dead (dead_ad h2) rfl
  · obtain ⟨h1, l1⟩ := dead_get (w := w) h1
    obtain ⟨h2, l2⟩ := dead_get (w := w) h2
    rw [dead_ad l1, dead_ad l2] at q
    exact ok.inj j k x y h1 h2 q
  · obtain ⟨h1, h2⟩ := dead_get (w := w) hk
    rw [dead_ad h2]
    exact ok.nrs k x h1
theorem rep_dead : Rep (w.dead a) (.cel w.mem.length) (.ref a) := by
  have e : (w.dead a).ad w.mem.length = a := if_pos rfl
  have z : Rep (w.dead a) (.cel w.mem.length) (.ref ((w.dead a).ad w.mem.length)) := .cel (by show w.mem.length < (w.mem ++ [none]).length; simp)
  rw [e] at z
  exact z
end
section
variable {X : Cx} {G : Dx}
/-- the clauses, told in data -/
inductive ClsOk (X : Cx) (G : Dx) (xs : List Str) : List ExceptHandler → List Cl → Prop
  | nil : ClsOk X G xs [] []
  | bare {x c : Str} {f : Nat → Str → List Str → List D → FS} {b₀ : Stmt} {suite : List Stmt} {np pos' : Pos} {hds : List ExceptHandler} {l : List Cl} (hc : Names X x (.ref (G.cl c)))
      (hsu : ∀ (a : Addr) (oe : Obj) (cls : Value) (d : Option Addr) (pn : List (Addr × Obj)) (k : Nat) (c' : Str) (fs : List Str) (ds : List D), c' ∈ xs → Zc cls d oe → (∃ vs, oe.data = .fields vs) → DSs (X.suite a ((a, oe) :: pn)) (G.sx k a c' fs ds cls d) (b₀ :: suite) (f k c' fs ds)) (r : ClsOk X G xs hds l) :
      ClsOk X G xs (.ExceptHandler (some (.Name x np)) none (b₀ :: suite) pos' :: hds) (⟨c, none, f⟩ :: l)
  | as {x n c : Str} {i : Nat} {f : Nat → Str → List Str → List D → FS} {b₀ : Stmt} {suite : List Stmt} {np pos' : Pos} {hds : List ExceptHandler} {l : List Cl} (hc : Names X x (.ref (G.cl c)))
      (hi : X.N[i]? = some n) (hln : X.env.kindOf n = some .local)
      (hsu : ∀ (a : Addr) (oe : Obj) (cls : Value) (d : Option Addr) (pn : List (Addr × Obj)) (k : Nat) (c' : Str) (fs : List Str) (ds : List D), c' ∈ xs → Zc cls d oe → (∃ vs, oe.data = .fields vs) → DSs (X.suite a ((a, oe) :: pn)) (G.sx k a c' fs ds cls d) (b₀ :: suite) (f k c' fs ds)) (r : ClsOk X G xs hds l) :
      ClsOk X G xs (.ExceptHandler (some (.Name x np)) (some n) (b₀ :: suite) pos' :: hds) (⟨c, some i, f⟩ :: l)
def suT (X : Cx) (G : Dx) (xs : List Str) (f : Nat → Str → List Str → List D → FS) : Addr → Value → Option Addr → TS := fun a cls d D σ H => ∃ k c fs ds, c ∈ xs ∧ asS X (G.sx k a c fs ds cls d) (f k c fs ds) D σ H
theorem suT_ok {xs : List Str} {f : Nat → Str → List Str → List D → FS} {a : Addr} {cls : Value} {d : Option Addr} {oe : Obj} {pn : List (Addr × Obj)} {ss : List Stmt} (h : ∀ (k : Nat) (c' : Str) (fs : List Str) (ds : List D), c' ∈ xs → DSs (X.suite a ((a, oe) :: pn)) (G.sx k a c' fs ds cls d) ss (f k c' fs ds)) :
    PSs (X.suite a ((a, oe) :: pn)) ss (suT X G xs f a cls d) := ⟨fun pins s σ H D I q => by
  obtain ⟨k, c, fs, ds, hc, w, env, A, z⟩ := q
  exact (h k c fs ds hc).run pins s σ H D I ⟨w, env, A.cx rfl rfl id, z⟩⟩
theorem ClsOk.mix {xs : List Str} {hs : List ExceptHandler} {l : List Cl} (h : ClsOk X G xs hs l) : MixOk X hs (l.map fun x => (Value.ref (G.cl x.c), x.o, suT X G xs x.f)) := by
  induction h with
  | nil => exact .nil
  | bare hc hsu r ih => exact .bare hc (fun a oe cls d pn hz hf => suT_ok fun k c' fs ds hc' => hsu a oe cls d pn k c' fs ds hc' hz hf) ih
  | as hc hi hln hsu r ih => exact .as hc hi hln (fun a oe cls d pn hz hf => suT_ok fun k c' fs ds hc' => hsu a oe cls d pn k c' fs ds hc' hz hf) ih
theorem try_word {xs ys : List Str} {hit : Str → Str → Bool} (hh : ∀ c ∈ xs, ∀ (x : Str), x ∈ ys → PySem.W.exmOne X.K (.ref (G.cl c)) (.ref (G.cl x)) = some (hit c x)) {c : Str} (hc : c ∈ xs) {fs : List Str} {ds : List D} {e : Env} {E : Ends} {w : Wd} {σ : L2.St} {dd : Addr} {vs : List V}
    (A : At X G w σ w.H e) (hx : w.H dd = some (.xd (fs.zip vs))) (hl : fs.length = ds.length) (r : RepL w ds vs) : ∀ {l : List Cl}, (∀ x ∈ l, x.c ∈ ys) → OutS G w E (tryGo hit c fs ds e w.mem l) →
    wMix X.K G.W E (l.map fun x => (Value.ref (G.cl x.c), x.o, suT X G xs x.f)) (.ref (G.cl c)) (some dd) σ w.H
  | [], _, h => h w σ dd vs (Ext.refl w) rfl A.rel hx hl r
  | x :: l, hxs, h => by
    refine ⟨hit c x.c, hh c hc x.c (hxs x List.mem_cons_self), fun hb a ha => ?_, fun hb => ?_⟩
    · unfold tryGo at h
      rw [if_pos hb] at h
      have e1 := Ext.dead (w := w) (a := a)
      have ok1 := Wok.dead (a := a) A.rel.ok
      have r1 : Rel (w.dead a) (preM x.o σ a) (preE x.o e w.mem.length) := by
        have z := A.rel.mono e1 ok1
        cases x.o with
        | none => exact z
        | some i => exact z.set i rep_dead
      refine ⟨w.mem.length, c, fs, ds, hc, w.dead a, preE x.o e w.mem.length, ⟨A.K, A.cl, rfl, r1, ⟨⟨by show w.mem.length < (w.mem ++ [none]).length; simp, if_pos rfl⟩, dd, vs, by rw [A.cl.symm] <;> rfl, rfl, fun z => xd_nlv A.rel.ok hx (dead_lv z), hx, hl, r.mono e1⟩⟩, ?_⟩
      show OutS _ _ _ (x.f w.mem.length c fs ds (preE x.o e w.mem.length) (w.mem ++ [none]))
      have back : ∀ {e' : Env} {σ' : L2.St} {w' : Wd}, Rel w' σ' e' → Rel w' (match x.o with
        | none => σ'
        | some i => σ'.set i none) (endE x.o e') := fun {e' σ' w'} q => by
        cases x.o with
        | none => exact q
        | some i => exact q.wipe1 i
      cases hr : x.f w.mem.length c fs ds (preE x.o e w.mem.length) (w.mem ++ [none]) with
      | nx e' m' =>
        rw [hr] at h
        intro w' σ' x1 x2 x3
        have z := h w' _ (e1.trans x1) x2 (back x3)
        cases ho : x.o with
        | none => rw [ho] at z; exact z
        | some i => rw [ho] at z; exact z
      | bk e' m' =>
        rw [hr] at h
        intro w' σ' x1 x2 x3
        have z := h w' _ (e1.trans x1) x2 (back x3)
        cases ho : x.o with
        | none => rw [ho] at z; exact z
        | some i => rw [ho] at z; exact z
      | ct e' m' =>
        rw [hr] at h
        intro w' σ' x1 x2 x3
        have z := h w' _ (e1.trans x1) x2 (back x3)
        cases ho : x.o with
        | none => rw [ho] at z; exact z
        | some i => rw [ho] at z; exact z
      | rt d' m' =>
        rw [hr] at h
        intro w' v' x1 x2 x3 x4
        have z := h w' v' (e1.trans x1) x2 x3 x4
        cases x.o with
        | none => exact z
        | some i => exact z
      | ex c' f' d' e' m' => rw [hr] at h; exact h.elim
      | st => rw [hr] at h; exact h.elim
    · unfold tryGo at h
      rw [hb, if_neg Bool.false_ne_true] at h
      exact try_word hh hc A hx hl r (fun y hy => hxs y (List.mem_cons_of_mem _ hy)) h
theorem pss_cx {X' : Cx} {ss : List Stmt} {f : FS} (hK : X'.K = X.K) (h : DSs X' G ss f) : PSs X' ss (asS X G f) := ⟨fun pins s σ H D I q => by
  obtain ⟨w, env, A, z⟩ := q
  exact h.run pins s σ H D I ⟨w, env, A.cx hK rfl id, z⟩⟩
theorem ds_try {xs ys : List Str} {hit : Str → Str → Bool} {body : List Stmt} {h₀ : ExceptHandler} {hds : List ExceptHandler} {cls : List Cl} {fb : FS} {pos : Pos} (hst : X.stack = X.env :: X.outer) (hf : X.env.frame = some X.env.locals) (hN : X.N.Nodup) (tk : Takes X G.W)
    (hh : ∀ c ∈ xs, ∀ (x : Str), x ∈ ys → PySem.W.exmOne X.K (.ref (G.cl c)) (.ref (G.cl x)) = some (hit c x)) (hxs : ∀ x ∈ cls, x.c ∈ ys)
    (hbo : ∀ (W : WX) (pn : List (Addr × Obj)) (xe : Value → Shared → Prop), Takes (X.tr pn xe) W → PassesOwn (model X.prog X.w) X.A X.env xe → DSs (X.tr pn xe) (G.wW W) body fb) (hcl : ClsOk X G xs (h₀ :: hds) cls) :
    DSt X G (.Try body (h₀ :: hds) [] [] pos) (fTry xs hit cls fb) := ⟨fun pins s σ H E I q => by
  refine (ps_try_mix (tb := fun W => asS X (G.wW W) fb) hst hf hN tk (fun W pn xe t p => pss_cx rfl (hbo W pn xe t p)) hcl.mix).run pins s σ H E I ?_
  obtain ⟨w, env, A, h⟩ := q
  refine ⟨w, env, A.cx rfl rfl id, ?_⟩
  have h : OutS G w E (match fb env w.mem with
    | .ex c fs ds e m1 => if c ∈ xs then tryGo hit c fs ds e m1 cls else .st
    | r => r) := h
  cases hr : fb env w.mem with
  | nx e m => rw [hr] at h; exact h
  | bk e m => rw [hr] at h; exact h
  | ct e m => rw [hr] at h; exact h
  | rt d m => rw [hr] at h; exact h
  | st => rw [hr] at h; exact h.elim
  | ex c fs ds e m =>
    rw [hr] at h
    dsimp only at h
    by_cases hc : c ∈ xs
    · rw [if_pos hc] at h
      intro w' σ' dd vs e' hm rl hx hl r
      subst hm
      exact try_word hh hc (A.to e' rl) hx hl r hxs (h.ext e')
    · rw [if_neg hc] at h
      exact h.elim⟩
/-- e.f, e the caught exception's name -/
@[reducible] def fXf (i k : Nat) (fs : List Str) (ds : List D) (f : Str) : FE := fun env m => match env[i]? with
  | some (some (.cel j)) => if j = k then (match (fs.zip ds).lookup f with
    | some d => .ok d m
    | none => .st) else .st
  | _ => .st
theorem de_xf {a : Addr} {oe : Obj} {cls : Value} {d : Option Addr} {pn : List (Addr × Obj)} {k i : Nat} {c : Str} {fs : List Str} {ds : List D} {f n : Str} {p pos : Pos} (T : ∀ C, cls = .ref C → C = G.cl c → XfC X.K C ∧ PySem.W.findIn X.K (.ref C) f = some none)
    (hz : Zc cls d oe) (hf : ∃ vs, oe.data = .fields vs) (hN : X.N[i]? = some n := by rfl) (hv : Vis X.env.scope n := by first | exact Or.inl rfl | exact Or.inr (Or.inl rfl) | exact Or.inr (Or.inr rfl)) (hd : (n == ("__debug__" : Str)) = false := by decide) (hcd : (n == ("__classdict__" : Str)) = false := by decide)
    (hb : attributeBase (.Name n p) f X.env (eval (.Name n p) X.env) = eval (.Name n p) X.env := by rfl) :
    DE (X.suite a ((a, oe) :: pn)) (G.sx k a c fs ds cls d) (.Attribute (.Name n p) f pos) (fXf i k fs ds f) := ⟨fun pins s σ H Q I q => by
  obtain ⟨w, env, A, h⟩ := q
  obtain ⟨⟨hk, ha⟩, dd, vs, hc, hdd, nl, hx, hl, r⟩ := A.xi
  have hcl : w.cl = G.cl := A.cl
  rw [hcl] at hc
  obtain ⟨T1, T2⟩ := T _ hc rfl
  refine (pe_xf (cls := cls) (d := d) T1 T2 hz hf (pe_var (i := i) hN hv hd hcd) hb).run pins s σ H Q I ?_
  have h : Out _ w σ (PD Q) (fXf i k fs ds f env w.mem) := h
  unfold fXf at h
  cases he : env[i]? with
  | none => rw [he] at h; exact h.st'.elim
  | some z =>
    cases z with
    | none => rw [he] at h; exact h.st'.elim
    | some z =>
      rw [he] at h
      cases z with
      | cel j =>
        dsimp only at h
        by_cases hj : j = k
        · rw [if_pos hj] at h
          subst hj
          cases hlk : (fs.zip ds).lookup f with
          | none => rw [hlk] at h; exact h.st'.elim
          | some d' =>
            rw [hlk] at h
            obtain ⟨v, hs, rv⟩ := A.rel.get i _ he
            cases rv
            obtain ⟨u, hu, ru⟩ := zip_lookup r hlk
            refine ⟨_, hs, by rw [ha], hc, dd, fs.zip vs, u, hdd, by rw [← A.H]; exact hx, hu, ?_⟩
            have q := h.here A.rel.ok u ru
            rw [A.H] at q
            exact q
        · rw [if_neg hj] at h
          exact h.st'.elim
      | _ => exact h.st'.elim⟩
end
end DL
/-! DL13: own objects: fields stored, made, compared. -/
namespace DL
open PySem PySem.Spec PyProof.Rows L2

/-! ### o.f = e -/
def putN (f : Str) : List Str → List Str
  | [] => [f]
  | g :: r => if g = f then g :: r else g :: putN f r
def putV (f : Str) (y : D) : List Str → List D → List D
  | g :: r, d :: ds => if g = f then y :: ds else d :: putV f y r ds
  | _, _ => [y]
theorem put_zip {w : Wd} {f : Str} {y : D} {v : V} (ry : Rep w y v) : ∀ {fs : List Str} {ds : List D} {vs : List V}, fs.length = ds.length → RepL w ds vs → ∃ us, putF f v (fs.zip vs) = (putN f fs).zip us ∧ (putN f fs).length = (putV f y fs ds).length ∧ RepL w (putV f y fs ds) us
  | [], [], _, _, .nil => ⟨[v], rfl, rfl, .cons ry .nil⟩
  | [], _ :: _, _, l, _ => by simp at l
  | _ :: _, [], _, l, _ => by simp at l
  | g :: fs, d :: ds, _, l, .cons (v := u) (vs := vs) r t => by
    by_cases hg : g = f
    · refine ⟨v :: vs, ?_, ?_, ?_⟩
      · rw [List.zip_cons_cons]
        unfold putF putN
        rw [if_pos hg, if_pos hg, List.zip_cons_cons]
      · simp only [putN, putV, if_pos hg]
        simpa using l
      · simp only [putV, if_pos hg]
        exact .cons ry t
    · obtain ⟨us, h1, h2, h3⟩ := put_zip ry (fs := fs) (ds := ds) (by simpa using l) t
      refine ⟨u :: us, ?_, ?_, ?_⟩
      · rw [List.zip_cons_cons]
        unfold putF putN
        rw [if_neg hg, if_neg hg, List.zip_cons_cons, h1]
      · simp only [putN, putV, if_neg hg]
        simpa using h2
      · simp only [putV, if_neg hg]
        exact .cons r h3
def setFD (cs fsn : List Str) (f : Str) (m : Mem) (d y : D) : Option Mem := match d with
  | .cel k => match m[k]? with
    | some (some (.ins c fs ds)) => if c ∈ cs ∧ f ∈ fsn ∧ fs.length < 1000 then some (m.set k (some (.ins c (putN f fs) (putV f y fs ds)))) else none
    | _ => none
  | _ => none
@[reducible] def fStF (cs fsn : List Str) (f : Str) (fo fe : FE) : FS := fun env m => (fe env m).bindS env fun y m1 => (fo env m1).bindS env fun d m2 => match setFD cs fsn f m2 d y with
  | some m3 => .nx env m3
  | none => .st
section
variable {X : Cx} {G : Dx} {o e : Expr} {es : List Expr} {fo fe : FE} {fs : FA} {f x : Str} {p pos pos' : Pos}
theorem ds_fld {cs fsn : List Str} (T : Tab X.K G.cl cs) (na : ∀ c ∈ cs, ∀ f ∈ fsn, NoAttr X.K (G.cl c) f) (ho : DE X G o fo) (he : DE X G e fe) (hs : swapsWith e (some (.Attribute o f pos')) pos.line X.env = pure false := by rfl) :
    DSt X G (.Assign [.Attribute o f pos'] e pos) (fStF cs fsn f fo fe) := ⟨fun pins s σ H E I q => by
  refine (ps_fld ho he hs).run pins s σ H E I ?_
  obtain ⟨w, env, A, h⟩ := q
  refine ⟨w, env, A, (Out.seqS h A.rel).imp fun y w1 e1 ok1 h1 yv ry => ?_⟩
  have A1 := A.go e1 ok1
  refine ⟨w1, env, A1, (Out.seqS h1 A1.rel).imp fun d w2 e2 ok2 h2 dv rd => ?_⟩
  have A2 := A1.go e2 ok2
  have h2 : OutS G w2 E (match setFD cs fsn f w2.mem d y with
    | some m3 => .nx env m3
    | none => .st) := h2
  cases hsf : setFD cs fsn f w2.mem d y with
  | none => rw [hsf] at h2; exact h2.elim
  | some m3 =>
    rw [hsf] at h2
    unfold setFD at hsf
    cases rd with
    | @cel k hk =>
      dsimp only at hsf
      split at hsf
      · rename_i c fs ds hm
        by_cases hc : c ∈ cs ∧ f ∈ fsn ∧ fs.length < 1000
        · rw [if_pos hc] at hsf
          cases hsf
          obtain ⟨dx, vs, hH, l, r⟩ := ok2.cell k _ hm
          obtain ⟨us, z1, z2, z3⟩ := put_zip (f := f) (ry.mono e2) l r
          have ex := Ext.cellSet (o := .ins (w2.cl c) dx ((putN f fs).zip us)) (c' := .ins c (putN f fs) (putV f y fs ds)) ok2 hm
          have ok3 : Wok (w2.cellSet k (.ins (w2.cl c) dx ((putN f fs).zip us)) (.ins c (putN f fs) (putV f y fs ds))) := ok2.cellSet hm ⟨dx, us, upd_same, z2, z3.mono ex⟩
          have hcl : w2.cl = G.cl := A2.cl
          refine ⟨w2.ad k, w2.cl c, dx, fs.zip vs, rfl, hH, by rw [hcl]; exact (T.cls c hc.1).cl, by rw [hcl]; exact na c hc.1 f hc.2.1, by rw [List.length_zip]; have := hc.2.2; omega, ?_⟩
          rw [z1]
          exact h2 (w2.cellSet k _ _) σ ex rfl (A2.rel.mono ex ok3)
        · rw [if_neg hc] at hsf
          cases hsf
      · cases hsf
    | _ => cases hsf⟩

/-! ### C(e, ..) -/
/-- the new instance: a cell while __init__ runs, data behind it -/
@[reducible] def fMake (c : Str) (g : Mean) (fs : FA) : FE := fun env m => (fs env m).bind fun ds m1 => (g (m1 ++ [some (.ins c [] [])]) (.cel m1.length :: ds)).bind fun d m2 =>
  match d, m2[m1.length]? with
  | .non, some (some ct) => leaveD false m1.length ct.tree (m2.set m1.length none)
  | _, _ => .st
theorem run_makeS {k : Nat} {f C : Addr} {fd : FuncData} {ps : List Str} {sp : Sp} {E : L2.St → XK} {pins : List (Addr × Obj)} {σ : L2.St} {H : Hp} {s : Shared} {Q : VK} {us : List Value} {vs : List V} (M : Mk X.K C f) (F : FnOk X.prog X.w X.K X.mg X.base (L2.CX X.prog X.w) k f fd ps sp) (hr : Room (k + 1) X.A) (hb : Binds X.K fd ps [])
    (hx : PassesAt (L2.CX X.prog X.w) X σ (E σ)) (I : L2.Inv X pins σ H s) (r : Vals vs us)
    (h : ∀ x dx, H x = none → H dx = none → dx ≠ x → sp (.ref x :: vs) (upd (upd H dx (.own x)) x (.ins C dx [])) (fun v H2 => v = .non ∧ Q (.ref x) H2) (E σ)) :
    wpAny (model X.prog X.w) X.A (call (.ref C) us) (EP X pins σ Q) X.xe s := by
  have hq := h (s.heap.objs.size + 1) s.heap.objs.size (I.hok.fresh (Nat.le_succ _)) (I.hok.fresh (Nat.le_refl _)) (Nat.ne_of_lt (Nat.lt_succ_self _))
  have J := Inv.made (C := C) I
  have rr : Vals (V.ref (s.heap.objs.size + 1) :: vs) (Value.ref (s.heap.objs.size + 1) :: us) := .cons rfl r
  have hlen : (Value.ref (s.heap.objs.size + 1) :: us).length = ps.length := by
    rw [← rr.length]
    exact F.len _ _ _ _ hq
  have bd := hb _ (Value.ref (s.heap.objs.size + 1) :: us) J.kIn (by rw [List.append_nil]; exact hlen)
  rw [List.append_nil] at bd
  refine wpAny_call (make_map (f := f) I.kIn M.makes M.init (beq_iff_eq.mp M.fn) (codeAny_mono (F.run _ X.stack _ _ ⟨Value.ref (s.heap.objs.size + 1) :: us, []⟩ (Value.ref (s.heap.objs.size + 1) :: us) _ _ (E σ) (hr.make C us [])
    (J.env0.make C us []) bd rr hq) fun r s' back => ?_))
  cases r with
  | error e => exact hx pins _ _ e s' J back
  | ok fl =>
    cases fl with
    | ret u =>
      obtain ⟨v, H', I3, rv, ev, q3⟩ := J.after back
      subst ev
      exact ⟨rv, ⟨V.ref (s.heap.objs.size + 1), H', I3, rfl, q3⟩⟩
    | next => exact back.elim
    | brk => exact back.elim
    | cont => exact back.elim
theorem cut_out {w w2 : Wd} {σ : L2.St} {Q : VK} {n : Nat} {ct : C} (ok2 : Wok w2) (e : Ext w w2) (hn : w.mem.length = n) (hc : w2.mem[n]? = some (some ct)) (h : Out G w σ (PD Q) (leaveD false n ct.tree (w2.mem.set n none))) : Q (.ref (w2.ad n)) w2.H := by
  simp only [leaveD, Bool.false_eq_true, if_false] at h
  by_cases hl : (ct.tree.low n && lowM n ((w2.mem.set n none).take n)) = true
  · rw [if_pos hl] at h
    rw [Bool.and_eq_true] at hl
    have ok3 := ok2.kill (c := n)
    have hle : n ≤ (w2.kill n).mem.length := by
      show n ≤ (w2.mem.set n none).length
      rw [List.length_set, ← hn]
      exact e.len
    exact h ((w2.kill n).cut n) (Ext.cut (e.trans Ext.kill) hn) rfl (ok3.cut hle hl.2) _ ((kill_tree ok2 hc).lowered hle hl.1)
  · rw [if_neg hl] at h
    exact h.st'.elim
theorem de_make {k n : Nat} {f : Addr} {c : Str} {fd : FuncData} {ps : List Str} {g : Mean} (ar : Ar n g) (M : Mk X.K (G.cl c) f) (F : FnOk X.prog X.w X.K X.mg X.base (L2.CX X.prog X.w) k f fd ps (spD X.K G.cl n g)) (tk : Takes X G.W) (hr : Room (k + 1) X.A) (hg : Gl X x) (hm : X.mg x = some (.ref (G.cl c))) (hb : Binds X.K fd ps [])
    (ha : DA X G (e :: es) fs) (hdb : (x == ("__debug__" : Str)) = false := by decide) (he : starEach (e :: es) X.env = (false, eval e X.env) :: starEach es X.env := by rfl) (hpl : (backTo pos (starEach es X.env)).any (·.1) = false := by rfl) :
    DE X G (.Call (.Name x p) (e :: es) [] pos) (fMake c g fs) := ⟨fun pins s σ H Q I q => by
  obtain ⟨w, env, A, h⟩ := q
  refine wpAny_Call_Name_kw (ld_glob I hg hm ?_ hdb)
  refine PySem.W.callWith_K (h₀ := X.base) I.ok.mod.kin M.kp (thn (ha.run pos pins s σ H (fun vs H1 => ∀ x dx, H1 x = none → H1 dx = none → dx ≠ x → spD X.K G.cl n g (.ref x :: vs) (upd (upd H1 dx (.own x)) x (.ins (G.cl c) dx [])) (fun v H2 => v = .non ∧ Q (.ref x) H2) (WE G.W σ)) I ⟨w, env, A, (Out.seq h).imp fun ds w1 e1 ok1 h1 vs rv => ?_⟩) fun us s1 ⟨vs, H1, I1, r, q⟩ => ⟨I1.kIn, ?_⟩) he hpl
  · intro y dx hy hdx ne
    have A1 := A.go e1 ok1
    have ea := Ext.put (o := .own y) ok1 hdx
    have oka := Wok.put (o := .own y) ok1 hdx
    have hy2 : (w1.put dx (.own y)).H y = none := by
      show upd w1.H dx _ y = none
      rw [upd_ne (Ne.symm ne)]
      exact hy
    have eb := Ext.cellNew (o := .ins (G.cl c) dx []) (c := .ins c [] []) oka hy2
    have okb : Wok ((w1.put dx (.own y)).cellNew y (.ins (G.cl c) dx []) (.ins c [] [])) := oka.cellNew hy2 ⟨dx, [], by
      show upd _ y _ (if w1.mem.length = w1.mem.length then y else _) = _
      rw [if_pos rfl, upd_same]
      have hcl : w1.cl = G.cl := A1.cl
      show some (HO.ins (G.cl c) dx []) = some (HO.ins (w1.cl c) dx [])
      rw [hcl], rfl, .nil⟩
    have e12 := ea.trans eb
    have A2 := A1.go e12 okb
    have rep : Rep ((w1.put dx (.own y)).cellNew y (.ins (G.cl c) dx []) (.ins c [] [])) (.cel w1.mem.length) (.ref y) := rep_cellNew
    have h1 : Out G w1 σ (PD Q) ((g (w1.mem ++ [some (.ins c [] [])]) (.cel w1.mem.length :: ds)).bind fun d m2 => match d, m2[w1.mem.length]? with
      | .non, some (some ct) => leaveD false w1.mem.length ct.tree (m2.set w1.mem.length none)
      | _, _ => .st) := h1
    have hout : Out G ((w1.put dx (.own y)).cellNew y (.ins (G.cl c) dx []) (.ins c [] [])) σ (PD fun v H2 => v = .non ∧ Q (.ref y) H2) (g (w1.mem ++ [some (.ins c [] [])]) (.cel w1.mem.length :: ds)) := by
      cases hgr : g (w1.mem ++ [some (.ins c [] [])]) (.cel w1.mem.length :: ds) with
      | st => rw [hgr] at h1; exact h1
      | ex c' f' d' m' => rw [hgr] at h1; exact Out.ext (r := (.ex c' f' d' m' : R D)) (P := PD fun v H2 => v = .non ∧ Q (.ref y) H2) h1 e12
      | ok d m2 =>
        rw [hgr] at h1
        dsimp only [R.bind] at h1
        intro w' ew hm ok' v rvv
        subst hm
        split at h1
        · rename_i ct hct
          cases rvv
          refine ⟨rfl, ?_⟩
          have q := cut_out ok' (e12.trans ew) rfl hct h1
          have had : w'.ad w1.mem.length = y := by
            rw [ew.adr _ (by show w1.mem.length < (w1.mem ++ [some (C.ins c [] [])]).length; simp)]
            exact if_pos rfl
          rw [had] at q
          exact q
        · exact h1.st'.elim
    exact app_out A2 (.cons rep (rv.mono e12)) (app_len ar (.cons rep (rv.mono e12)) hout) hout
  · show wpAny _ _ (call (.ref (G.cl c)) us) _ _ _
    exact run_makeS (E := WE G.W) M F hr hb (passAt tk σ) I1 r q⟩
/-! ### ==, != by an own __eq__ -/
def objs (c : Str) (m : Mem) (d : D) : Bool := match objOf m d with
  | some (c', _, _) => decide (c' = c)
  | none => false
theorem objs_ok {w : Wd} (ok : Wok w) {c : Str} {d : D} {v : V} (rv : Rep w d v) (h : objs c w.mem d = true) : ∃ p dx fs, v = .ref p ∧ w.H p = some (.ins (w.cl c) dx fs) := by
  unfold objs at h
  cases ho : objOf w.mem d with
  | none => rw [ho] at h; cases h
  | some z =>
    obtain ⟨c', fs, ds⟩ := z
    rw [ho] at h
    have e : c' = c := of_decide_eq_true h
    subst e
    obtain ⟨p, dx, vs, e1, e2, _⟩ := rv.asobj ok ho
    exact ⟨p, dx, _, e1, e2⟩
@[reducible] def opOwn (c : Str) (g : Mean) (m : Mem) (a b : D) : R D := if (objs c m a && objs c m b) = true then (match g m [a, b] with
  | .ok (.bl r) m' => .ok (.bl r) m'
  | _ => .st) else .st
theorem suits_own {k : Nat} {f : Addr} {c : Str} {fd : FuncData} {ps : List Str} {g : Mean} (ar : Ar 2 g) (F : FnOk X.prog X.w X.K X.mg X.base (L2.CX X.prog X.w) k f fd ps (spD X.K G.cl 2 g)) (hr : Room k X.A) (hse : PySem.W.findIn X.K (.ref (G.cl c)) "__eq__" = some (some (.ref f))) (hf : PySem.W.isFn X.K (.ref f) = true) (hb : L2.Binds X.K fd ps []) : Suits X G (compareOp .Eq) (opOwn c g) := fun m a b => by
  refine .inr ⟨fun x y H Q => ∃ p q dx dy fs gs, x = .ref p ∧ y = .ref q ∧ H p = some (.ins (G.cl c) dx fs) ∧ H q = some (.ins (G.cl c) dy gs) ∧ spD X.K G.cl 2 g [x, y] H (fun v H2 => ∃ r, v = .bl r ∧ Q v H2) E0, ?_, ?_⟩
  · intro pins s σ H x y v u Q I rx ry h
    obtain ⟨p, q, dx, dy, fs, gs, rfl, rfl, hp, hq, hsp⟩ := h
    cases rx
    cases ry
    obtain ⟨mA, JA, _⟩ := L2.ins_get I.hok hp
    obtain ⟨mB, JB, _⟩ := L2.ins_get I.hok hq
    obtain ⟨od, JA, _⟩ := JA.look
    obtain ⟨od', JB, _⟩ := JB.look
    obtain ⟨mm, fr⟩ := I.fr
    refine PySem.W.cmp_K (op := .Eq) (tb := .ref (G.cl c)) hr.units0 fr I.ok.mod.kin JA JB.type (by simp [PySem.W.notFirst]) hse hf ?_
    have hl := F.len _ _ _ _ hsp
    have bd := hb s [.ref p, .ref q] I.kIn (by rw [List.append_nil]; exact hl)
    rw [List.append_nil] at bd
    refine wpAny_call (codeAny_mono (F.run X.A X.stack s H ⟨[.ref p, .ref q], []⟩ [.ref p, .ref q] [.ref p, .ref q] _ E0 hr I.env0 bd (.cons rfl (.cons rfl .nil)) hsp) fun r s' back => ?_)
    cases r with
    | error e => exact passL pins σ H s e s' I back
    | ok fl =>
      cases fl with
      | ret u =>
        obtain ⟨z, H', I', rz, ⟨r, ez, qz⟩⟩ := I.after back
        subst ez
        cases rz
        exact ⟨.bl r, H', I', rfl, qz⟩
      | next => exact back.elim
      | brk => exact back.elim
      | cont => exact back.elim
  · intro w σ env x y Q hm A ra rb h
    subst hm
    by_cases ho : (objs c w.mem a && objs c w.mem b) = true
    · simp only [opOwn, if_pos ho] at h
      rw [Bool.and_eq_true] at ho
      obtain ⟨p, dx, fs, rfl, hp⟩ := objs_ok A.rel.ok ra ho.1
      obtain ⟨q, dy, gs, rfl, hq⟩ := objs_ok A.rel.ok rb ho.2
      have hcl : w.cl = G.cl := A.cl
      rw [hcl] at hp hq
      refine ⟨p, q, dx, dy, fs, gs, rfl, rfl, hp, hq, rfl, w, [a, b], A.K, A.cl, rfl, A.rel.ok, .cons ra (.cons rb .nil), ?_⟩
      split at h
      · rename_i r m' hg
        rw [hg]
        intro w' ew hm' ok' v rv
        cases rv
        exact ⟨r, rfl, h w' ew hm' ok' _ .bl⟩
      · exact h.st'.elim
    · simp only [opOwn, if_neg ho] at h
      exact h.st'.elim
end
end DL
/-! DL14: further rules. -/
namespace DL
open PySem PySem.Spec PyProof.Rows L2

/-! ### None in a list -/
section
variable {prog : Program} {wd : World} {A : Around} {E : Value → Shared → Prop} {s : Shared}
theorem rc_dict_none {d : Addr} {o : Obj} (ho : s.heap.get? d = some o) (hx : o.ExactDict) (hu : A.units < cLine) : SeqAt.RcAt A s (.ref d) .none false := fun prog w E Q h => by
  have hT : s.TypeIs (.ref d) "dict" := ⟨o, ho, hx.1⟩
  refine SeqAt.rc_eq_decline_or (k := false) hT rfl (by decide) F.sub_NoneType_dict F.slot_dict_eq F.slot_NoneType_eq_refl (fun _ hq => ?_)
    (fun _ hq => call_gives F.slot_NoneType_eq_refl rfl F.entry_NoneType_eq (F.args_NoneType_eq_2 _ _) (SeqAt.NoneType___eq___none_ref_0 d) hq)
    (fun _ hq => wpAny_of_eq (rfl : isSame (.ref d) .none = pure false) hq) (.inr hu) h
  refine wpAny_call_entry PySem.F.slot_dict_eq hT PySem.F.entry_dict_eq ?_ (PySem.F.args_dict_eq_2 _ _)
  show wpAny _ _ (Builtin.Dict.dictSlotArgs "__eq__" ⟨[.ref d, .none], []⟩ >>= _) _ _ s
  refine wpAny_bind ?_
  unfold Builtin.Dict.dictSlotArgs
  refine wpAny_bind (wpAny_notOrdered_dict hT ?_)
  show wpAny _ _ (pure (Value.ref d, Value.none)) _ _ s
  refine wpAny_pure ?_
  refine wpAny_bind (wpAny_isInstance (T := "NoneType") (b := false) rfl F.sub_NoneType_dict ?_)
  rw [if_pos (show (!false) = true from rfl)]
  refine wpAny_bind (wpAny_rule ?_)
  refine wpAny_bind (wpAny_pure ?_)
  exact wpAny_pure ⟨_, rfl, hq⟩
theorem eq_dict_none {d : Addr} {o : Obj} (ho : s.heap.get? d = some o) (hx : o.ExactDict) (hu : A.units < cLine) : SeqAt.EqAt A s (.ref d) .none false := fun prog w E Q h => by
  unfold eqBool
  refine wpAny_holding ?_
  refine wpAny_ite_split (fun hab => absurd (eq_of_beq hab) nofun) (fun _ => ?_)
  exact wpAny_bind (rc_dict_none ho hx hu prog w E _ (wpAny_truthy_bool h))
end
/-- items that None may be looked for among -/
def isNonD : D → Bool
  | .non => true
  | _ => false
def noneOk : D → Bool
  | .non => true
  | .bl _ => true
  | .int _ => true
  | .str _ => true
  | .dk _ _ => true
  | .dt _ _ => true
  | _ => false
def opNoneIn (m : Mem) (a b : D) : R D := match a, lstOf m b with
  | .non, some xs => if xs.all noneOk = true then .ok (.bl (xs.any isNonD)) m else .st
  | _, _ => .st
def isNonV : Value → Bool
  | .none => true
  | _ => false
/-- a value that None may be compared with -/
def NoneFits (H : Hp) (v : V) : Prop := flatV v = true ∨ ∃ a, v = .ref a ∧ ((∃ kvs, H a = some (.dK kvs)) ∨ ∃ kvs, H a = some (.dT kvs))
section
variable {X : Cx} {G : Dx}
theorem op_nonein (hu : X.A.units + 1 < cLine) : OpR X (compareOp .In) (fun x y H Q => ∃ p xs, x = .non ∧ y = .ref p ∧ SqL X.K H p xs ∧ (∀ v ∈ xs, NoneFits H v) ∧ Q (.bl (xs.any fun v => decide (v = .non))) H) := by
  intro pins s σ H x y v u Q I rx ry h
  obtain ⟨p, xs, rfl, rfl, hq, hf, q⟩ := h
  cases rx
  cases ry
  obtain ⟨its, r, pl, hz⟩ := I.list hq
  have all : ∀ {xs : List V} {us : List Value}, Vals xs us → (∀ v ∈ xs, NoneFits H v) → (∀ u ∈ us, SeqAt.EqAt X.A.in1 s u .none (isNonV u)) ∧ us.any isNonV = xs.any fun v => decide (v = .non) := by
    intro xs us r
    induction r with
    | nil => intro _; exact ⟨fun u hu => (by cases hu), rfl⟩
    | @cons x u xs us r t ih =>
      intro hf
      obtain ⟨i1, i2⟩ := ih fun v hv => hf v (List.mem_cons_of_mem _ hv)
      have one : SeqAt.EqAt X.A.in1 s u .none (isNonV u) ∧ isNonV u = decide (x = .non) := by
        rcases hf x List.mem_cons_self with f | ⟨a, rfl, hd⟩
        · have e := eqAt_V (A := X.A.in1) (s := s) r (show RelV .non .none from rfl) f rfl
          have z : eqV x .non = isNonV u ∧ isNonV u = decide (x = .non) := by
            cases x with
            | non => cases r; exact ⟨rfl, rfl⟩
            | bl b => cases r; exact ⟨rfl, rfl⟩
            | int i => obtain ⟨t, rfl⟩ := r; exact ⟨rfl, rfl⟩
            | str z => obtain ⟨t, rfl⟩ := r; exact ⟨rfl, rfl⟩
            | _ => exact absurd (show false = true from f) Bool.false_ne_true
          rw [z.1] at e
          exact ⟨e, z.2⟩
        · cases r
          rcases hd with ⟨kvs, hd⟩ | ⟨kvs, hd⟩
          · obtain ⟨_, _, _, _, o, _, _, ho, hx, _⟩ := dk_of I.hok hd
            exact ⟨eq_dict_none ho hx hu, rfl⟩
          · obtain ⟨_, _, _, _, o, _, _, ho, hx, _⟩ := dt_of I.hok hd
            exact ⟨eq_dict_none ho hx hu, rfl⟩
      refine ⟨fun w hw => ?_, by rw [List.any_cons, List.any_cons, i2, one.2]⟩
      rcases List.mem_cons.mp hw with rfl | hw
      · exact one.1
      · exact i1 w hw
  obtain ⟨a1, a2⟩ := all r hf
  refine SeqAt.in_listAt isNonV pl.isList (fun w hw => a1 w (by simpa using hw)) ⟨.bl _, H, I, rfl, ?_⟩
  rw [show its.toArray.any isNonV = its.any isNonV by simp, a2]
  exact q
theorem none_fits {w : Wd} : ∀ {xs : List D} {vs : List V}, RepL w xs vs → xs.all noneOk = true → (∀ v ∈ vs, NoneFits w.H v) ∧ (vs.any fun v => decide (v = .non)) = xs.any isNonD
  | _, _, .nil, _ => ⟨fun v hv => (by cases hv), rfl⟩
  | d :: xs, v :: vs, .cons r t, h => by
    rw [List.all_cons, Bool.and_eq_true] at h
    obtain ⟨i1, i2⟩ := none_fits t h.2
    have one : NoneFits w.H v ∧ decide (v = .non) = isNonD d := by
      cases r with
      | non => exact ⟨.inl rfl, rfl⟩
      | bl => exact ⟨.inl rfl, rfl⟩
      | int => exact ⟨.inl rfl, rfl⟩
      | str => exact ⟨.inl rfl, rfl⟩
      | dk n e l q => exact ⟨.inr ⟨_, rfl, .inl ⟨_, e⟩⟩, rfl⟩
      | dt n e l q => exact ⟨.inr ⟨_, rfl, .inr ⟨_, e⟩⟩, rfl⟩
      | _ => exact absurd h.1 Bool.false_ne_true
    refine ⟨fun z hz => ?_, by rw [List.any_cons, List.any_cons, i2, one.2]⟩
    rcases List.mem_cons.mp hz with rfl | hz
    · exact one.1
    · exact i1 z hz
theorem suits_nonein (hu : X.A.units + 65 < cLine) : Suits X G (compareOp .In) opNoneIn := fun m a b => by
  refine .inr ⟨_, op_nonein (by omega), fun w σ env x y Q hm A ra rb h => ?_⟩
  subst hm
  unfold opNoneIn at h
  cases ra with
  | non =>
    cases hl : lstOf w.mem b with
    | none => rw [hl] at h; exact h.st'.elim
    | some xs =>
      rw [hl] at h
      dsimp only at h
      by_cases ha : xs.all noneOk = true
      · rw [if_pos ha] at h
        obtain ⟨p, vs, rfl, e, r⟩ := rb.aslst A.rel.ok hl
        obtain ⟨f1, f2⟩ := none_fits r ha
        refine ⟨p, vs, rfl, rfl, SqL.of e, f1, ?_⟩
        rw [f2]
        exact out_bl A h
      · rw [if_neg ha] at h
        exact h.st'.elim
  | _ => exact h.st'.elim

/-! ### d != {} -/
theorem dict_ne_none {P : Program} {wd : World} {A : Around} {E : Value → Shared → Prop} {s : Shared} {a b : Addr} {oa ob : Obj} {es es' : Array DictEntry} {ep ep' : Nat} {Q : Value → Shared → Prop} (ha : (a == sysModules) = false) (hb : (b == sysModules) = false)
    (hoa : s.heap.get? a = some oa) (xa : oa.ExactDict) (hda : oa.data = .dict es ep) (hob : s.heap.get? b = some ob) (xb : ob.ExactDict) (hdb : ob.data = .dict es' ep') (hz : es'.size = 0) (hu : A.units < cLine) (h : Q (.bool (decide (es.size ≠ 0))) s) :
    wpAny (model P wd) A (compareOp .NotEq (.ref a) (.ref b)) Q E s := by
  have ta : s.TypeIs (.ref a) "dict" := ⟨oa, hoa, xa.1⟩
  have tb : s.TypeIs (.ref b) "dict" := ⟨ob, hob, xb.1⟩
  refine wpAny_richCompare_same_room (op := .NotEq) ta tb PySem.F.slot_dict_ne (wpAny_call_entry PySem.F.slot_dict_ne ta PySem.F.entry_dict_ne ?_ (PySem.F.args_dict_ne_2 _ _)) hu
  show wpAny _ _ (Builtin.Dict.dictSlotArgs "__ne__" ⟨[.ref a, .ref b], []⟩ >>= _) _ _ s
  refine wpAny_bind ?_
  unfold Builtin.Dict.dictSlotArgs
  refine wpAny_bind (wpAny_notOrdered_dict ta ?_)
  show wpAny _ _ (pure (Value.ref a, Value.ref b)) _ _ s
  refine wpAny_pure ?_
  refine wpAny_bind (wpAny_isInstance (T := "dict") tb PySem.F.sub_dict_dict ?_)
  simp only [Bool.not_true, Bool.false_eq_true, if_false]
  refine wpAny_bind (wpAny_pure (wpAny_bind (wpAny_pure ?_)))
  have same : ∀ {Q : Bool → Shared → Prop} {A' : Around} {E' : Value → Shared → Prop} {id : String}, Q (decide (es.size = 0)) s → wpAny (model P wd) A' (Builtin.Dict.samePairs id a b) Q E' s := fun {Q A' E' id} q => by
    unfold Builtin.Dict.samePairs Builtin.Dict.showsAll
    rw [if_neg (show ¬ (a == sysModules) = true by rw [ha]; exact Bool.false_ne_true), if_neg (show ¬ (b == sysModules) = true by rw [hb]; exact Bool.false_ne_true)]
    refine wpAny_bind (wpAny_pure (wpAny_bind (wpAny_pure (wpAny_bind (wpAny_dictEntries hoa hda ?_)))))
    dsimp only
    refine wpAny_bind (wpAny_dictEntries hob hdb ?_)
    rw [hz]
    by_cases h0 : es.size = 0
    · rw [if_neg (by rw [h0]; decide)]
      refine wpAny_bind (wpAny_dictEpoch hoa hda (wpAny_bind ?_))
      rw [Std.Legacy.Range.forIn_eq_forIn_range']
      simp only [Std.Legacy.Range.size, h0]
      rw [decide_eq_true h0] at q
      exact wpAny_pure (wpAny_pure q)
    · rw [if_pos (by simpa using h0)]
      rw [decide_eq_false h0] at q
      exact wpAny_bind (wpAny_rule (wpAny_pure q))
  refine wpAny_bind (same (wpAny_pure ⟨_, rfl, fun x => (nomatch x), ?_⟩))
  have e : (decide (es.size = 0) == false) = decide (es.size ≠ 0) := by
    by_cases h0 : es.size = 0 <;> simp [h0]
  rw [e]
  exact h
/-- a dict of n items -/
def DN (H : Hp) (a : Addr) (n : Nat) : Prop := (∃ kvs, H a = some (.dK kvs) ∧ kvs.length = n) ∨ ∃ kvs, H a = some (.dT kvs) ∧ kvs.length = n
theorem DN.at {X : Cx} {pins : List (Addr × Obj)} {σ : L2.St} {H : Hp} {s : Shared} {a : Addr} {n : Nat} (I : L2.Inv X pins σ H s) (h : DN H a n) : ∃ o es ep, (a == sysModules) = false ∧ s.heap.get? a = some o ∧ o.ExactDict ∧ o.data = .dict es ep ∧ es.size = n := by
  rcases h with ⟨kvs, e, rfl⟩ | ⟨kvs, e, rfl⟩
  · obtain ⟨_, hs, vs, r, o, es, ep, ho, hx, hd, _, hp, _⟩ := dk_of I.hok e
    refine ⟨o, es, ep, hs, ho, hx, hd, ?_⟩
    rw [r.length, ← hp.length]
    exact Array.length_toList.symm
  · obtain ⟨_, hs, xs, r, o, es, ep, ho, hx, hd, hp, _⟩ := (show ObjOk X.prog X.w H s.heap a (.dT kvs) from I.hok a _ e)
    refine ⟨o, es, ep, hs, ho, hx, hd, ?_⟩
    rw [Paired.length r]
    have z := congrArg List.length hp
    rw [List.length_map] at z
    rw [← z]
    exact Array.length_toList.symm
def dlen (m : Mem) (d : D) : Option Nat := (dicOf m d).map fun
  | .k ks ds => (ks.zip ds).length
  | .t ks ds => (ks.zip ds).length
theorem DcAt.dn {w : Wd} {d : D} {v : V} {n : Nat} (ok : Wok w) (r : Rep w d v) (h : dlen w.mem d = some n) : ∃ a, v = .ref a ∧ DN w.H a n := by
  unfold dlen at h
  cases hd : dicOf w.mem d with
  | none => rw [hd] at h; cases h
  | some c =>
    rw [hd] at h
    obtain ⟨p, rfl, dc⟩ := r.asdic ok hd
    refine ⟨p, rfl, ?_⟩
    cases c with
    | k ks ds =>
      cases h
      obtain ⟨vs, e, l, r⟩ := dc
      exact .inl ⟨_, e, zip_len r⟩
    | t ks ds =>
      cases h
      obtain ⟨vs, e, l, r⟩ := dc
      exact .inr ⟨_, e, zip_len r⟩
def opNeE (m : Mem) (a b : D) : R D := match dlen m a, dlen m b with
  | some n, some 0 => .ok (.bl (decide (n ≠ 0))) m
  | _, _ => .st
theorem suits_neE (hu : X.A.units + 64 < cLine) : Suits X G (compareOp .NotEq) opNeE := fun m a b => by
  refine .inr ⟨fun x y H Q => ∃ p q n, x = .ref p ∧ y = .ref q ∧ DN H p n ∧ DN H q 0 ∧ Q (.bl (decide (n ≠ 0))) H, ?_, fun w σ env x y Q hm A ra rb h => ?_⟩
  · intro pins s σ H x y v u Q I rx ry h
    obtain ⟨p, q, n, rfl, rfl, d1, d2, z⟩ := h
    cases rx
    cases ry
    obtain ⟨o, es, ep, h1, h2, h3, h4, h5⟩ := d1.at I
    obtain ⟨o', es', ep', g1, g2, g3, g4, g5⟩ := d2.at I
    refine dict_ne_none h1 g1 h2 h3 h4 g2 g3 g4 g5 (by omega) ⟨.bl _, H, I, rfl, ?_⟩
    rw [h5]
    exact z
  · subst hm
    unfold opNeE at h
    split at h
    · rename_i n h1 h2
      obtain ⟨p, rfl, d1⟩ := DcAt.dn A.rel.ok ra h1
      obtain ⟨q, rfl, d2⟩ := DcAt.dn A.rel.ok rb h2
      exact ⟨p, q, n, rfl, rfl, d1, d2, out_bl A h⟩
    · exact h.st'.elim

/-! ### dict([]) -/
def opDict0 (m : Mem) (d : D) : R D := match lstOf m d with
  | some [] => .ok (.dt [] []) m
  | _ => .st
theorem suits_dict0 (hc : X.calm = true) : SuitsC X G (.type "dict") (op1 opDict0) := suits1 fun m d => by
  refine .inr ⟨fun vs H Q => ∃ a, vs = [.ref a] ∧ H a = some (.lst []) ∧ ∀ p, H p = none → Q (.ref p) (upd H p (.dT [])), ?_, fun w σ env v Q hm A rv h => ?_⟩
  · intro pins s σ H xs us Q I r h
    obtain ⟨a, rfl, ha, q⟩ := h
    obtain ⟨u, rfl, rx⟩ := vals1 r
    cases rx
    obtain ⟨its, rl, ⟨ol, n, h1, h2, h3, h4⟩, hz⟩ := I.list (SqL.of ha)
    cases rl
    refine call_dict_pairs (prs := []) (I.ok.hd hc) h1 h2 h3 h4 rfl (Nat.zero_le _) (fun j q e => by simp at e) fun h' tk hd k => ?_
    obtain ⟨o, es, ep, ho, hx, hdat, _, hp, _⟩ := hd
    have he : es.toList = [] := List.eq_nil_of_length_eq_zero (by rw [hp.length] <;> rfl)
    have hn := I.hok.fresh (Nat.le_refl s.heap.objs.size)
    exact ⟨.ref _, _, I.laid (a := s.heap.objs.size) (o := .dT []) (t' := tk) k (Nat.le_refl _) ⟨Nat.zero_le _, beq_eq_false_iff_ne.mpr (Ne.symm (Nat.ne_of_lt I.big)), [], .nil, o, es, ep, ho, hx, hdat, he, List.nodup_nil⟩, rfl, q _ hn⟩
  · subst hm
    unfold opDict0 at h
    split at h
    · rename_i hl
      obtain ⟨p, vs, rfl, e, r⟩ := rv.aslst A.rel.ok hl
      cases r
      refine ⟨p, rfl, e, fun q hq => ?_⟩
      exact h (w.put q _) (Ext.put A.rel.ok hq) rfl (A.rel.ok.put hq) _ (.dt (A.rel.ok.not_lv hq) (by show upd w.H q _ q = _; rw [upd_same]; rfl) rfl .nil)
    · exact h.st'.elim

/-! ### not, of anything with a truth -/
@[reducible] def fNotT (t : FT) : FE := fun env m => (t env m).bind fun b m1 => .ok (.bl (!b)) m1
@[reducible] def fB (fe : FE) : FT := fun env m => asB (fe env m)
@[reducible] def fTr (fe : FE) : FT := fun env m => asTr (fe env m)
variable {a e : Expr} {t : FT} {fa : FE} {pos : Pos}
def notR (o : Option Bool) (m : Mem) : R D := match o with
  | some b => .ok (.bl (!b)) m
  | none => .st
theorem de_notT (ha : DE X G a fa) : DE X G (.UnaryOp .Not a pos) (fNotT (fTr fa)) := pe_imp (pe_notT ha) fun σ H Q q => by
  obtain ⟨w, env, A, h⟩ := q
  have eq : fNotT (fTr fa) env w.mem = (fa env w.mem).bind fun d m => notR (truD m d) m := by
    cases hr : fa env w.mem with
    | ok d m =>
      cases ht : truD m d with
      | none => simp only [fNotT, fTr, asTr, hr, R.bind, ht, notR]
      | some b => simp only [fNotT, fTr, asTr, hr, R.bind, ht, notR]
    | ex c f d m => simp only [fNotT, fTr, asTr, hr, R.bind]
    | st => simp only [fNotT, fTr, asTr, hr, R.bind]
  rw [eq] at h
  refine ⟨w, env, A, (Out.seq h).imp fun d w1 e1 ok1 h1 v rv => ?_⟩
  cases ht : truD w1.mem d with
  | none =>
    rw [ht] at h1
    exact h1.st'.elim
  | some k =>
    rw [ht] at h1
    exact ⟨k, (A.go e1 ok1).K ▸ rv.tru ok1 ht, out_bl (A.go e1 ok1) h1⟩
end

/-! ### {k: v, ..} -/
def fPairs : List (FE × FE) → Env → Mem → R (List (D × D))
  | [], _, m => .ok [] m
  | p :: r, env, m => (p.1 env m).bind fun k m1 => (p.2 env m1).bind fun v m2 => (fPairs r env m2).bind fun ps m3 => .ok ((k, v) :: ps) m3
def keysAll : List (D × D) → Option (List Key)
  | [] => some []
  | p :: r => match keyD p.1, keysAll r with
    | some k, some ks => some (k :: ks)
    | _, _ => none
def nodupB {κ : Type} [DecidableEq κ] : List κ → Bool
  | [] => true
  | k :: ks => !hasK ks k && nodupB ks
@[reducible] def fDisp (prs : List (FE × FE)) : FE := fun env m => (fPairs prs env (m ++ [some (.dk [] [])])).bind fun ps m2 => match m2[m.length]?, keysAll ps with
  | some (some (.dk [] [])), some ks => if (decide (ks.length ≤ 15) && nodupB ks) = true then leaveD false m.length (.dk ks (ps.map (·.2))) (m2.set m.length none) else .st
  | _, _ => .st
section
variable {X : Cx} {G : Dx} {k v : Expr} {ks : List (Option Expr)} {vs : List Expr} {fk fv : FE} {prs : List (FE × FE)} {pos : Pos}
abbrev DPs (X : Cx) (G : Dx) (pos : Pos) (ks : List (Option Expr)) (vs : List Expr) (prs : List (FE × FE)) : Prop := PPs X pos ks vs (prs.map fun p => (asE X G p.1, asE X G p.2))
theorem dps_nil : DPs X G pos [] [] [] := pps_nil
theorem dps_cons (hk : DE X G k fk) (hv : DE X G v fv) (hr : DPs X G pos ks vs prs) : DPs X G pos (some k :: ks) (v :: vs) ((fk, fv) :: prs) := pps_cons hk hv hr
/-- pairs of data, pairs of values -/
def RepP (w : Wd) : List (D × D) → List (V × V) → Prop
  | [], [] => True
  | p :: r, q :: s => Rep w p.1 q.1 ∧ Rep w p.2 q.2 ∧ RepP w r s
  | _, _ => False
theorem RepP.mono {w w' : Wd} (e : Ext w w') : ∀ {ps : List (D × D)} {qs : List (V × V)}, RepP w ps qs → RepP w' ps qs
  | [], [], _ => trivial
  | _ :: _, _ :: _, ⟨a, b, c⟩ => ⟨a.mono e, b.mono e, RepP.mono e c⟩
theorem pairs_word {env : Env} {σ : L2.St} {Q : List (V × V) → Hp → Prop} : ∀ {prs : List (FE × FE)} {w : Wd}, At X G w σ w.H env → Out G w σ (fun ps w' => ∀ qs, RepP w' ps qs → Q qs w'.H) (fPairs prs env w.mem) →
    tPairs (prs.map fun p => (asE X G p.1, asE X G p.2)) σ w.H Q
  | [], w, A, h => h.here A.rel.ok [] trivial
  | p :: r, w, A, h => by
    refine ⟨w, env, A, (Out.seq h).imp fun kd w1 e1 ok1 h1 x rx => ?_⟩
    refine ⟨w1, env, A.go e1 ok1, (Out.seq h1).imp fun vd w2 e2 ok2 h2 y ry => ?_⟩
    refine pairs_word (A.go (e1.trans e2) ok2) ((Out.seq h2).imp fun ps w3 e3 ok3 h3 qs rq => ?_)
    exact h3.here ok3 ((x, y) :: qs) ⟨(rx.mono e2).mono e3, ry.mono e3, rq⟩
theorem keys_of {w : Wd} : ∀ {ps : List (D × D)} {qs : List (V × V)} {kk : List Key}, RepP w ps qs → keysAll ps = some kk → ∃ us, qs = (kk.zip us).map (fun kv => (kV kv.1, kv.2)) ∧ kk.length = us.length ∧ RepL w (ps.map (·.2)) us ∧ kk.length = (ps.map (·.2)).length
  | [], [], _, _, h => by
    cases h
    exact ⟨[], rfl, rfl, .nil, rfl⟩
  | [], _ :: _, _, r, _ => r.elim
  | _ :: _, [], _, r, _ => r.elim
  | p :: ps, q :: qs, kk, ⟨r1, r2, r3⟩, h => by
    unfold keysAll at h
    split at h
    · rename_i k ks hk hks
      cases h
      obtain ⟨us, e, l, r, l2⟩ := keys_of r3 hks
      refine ⟨q.2 :: us, ?_, by simp [l], .cons r2 r, by simpa using l2⟩
      rw [List.zip_cons_cons, List.map_cons, e, ← keyD_ok r1 hk]
    · cases h
theorem putK_new {k : Key} {v : V} : ∀ {kvs : List (Key × V)}, (∀ p ∈ kvs, p.1 ≠ k) → putK kvs k v = kvs ++ [(k, v)] := fun {kvs} h => by
  unfold putK
  rw [if_neg]
  intro z
  obtain ⟨p, hp, e⟩ := List.any_eq_true.mp z
  exact h p hp (of_decide_eq_true e)
theorem merge_nodup : ∀ {more acc : List (Key × V)}, nodupB (more.map (·.1)) = true → (∀ p ∈ acc, ∀ q ∈ more, p.1 ≠ q.1) → mergeK acc more = acc ++ more
  | [], acc, _, _ => by show acc = _; simp
  | q :: r, acc, h, ha => by
    rw [List.map_cons] at h
    unfold nodupB at h
    rw [Bool.and_eq_true] at h
    show mergeK (putK acc q.1 q.2) r = _
    rw [putK_new fun p hp => ha p hp q List.mem_cons_self, merge_nodup h.2]
    · simp
    · intro p hp z hz
      rcases List.mem_append.mp hp with hp | hp
      · exact ha p hp z (List.mem_cons_of_mem _ hz)
      · have e : p = (q.1, q.2) := by simpa using hp
        subst e
        intro e
        have hh : hasK (r.map (·.1)) q.1 = false := by simpa using h.1
        have : hasK (r.map (·.1)) q.1 = true := hasK_ok.2 (List.mem_map.mpr ⟨z, hz, e.symm⟩)
        rw [hh] at this
        cases this
theorem de_disp (h : DPs X G pos ks vs prs) (hall : ks.all (·.isSome) = true := by rfl) (hl : ks.length = vs.length := by rfl) (h0 : ks ≠ [] := by nofun) (h15 : ks.length ≤ 15 := by decide) : DE X G (.Dict ks vs pos) (fDisp prs) :=
  pe_imp (pe_disp h hall hl h0 h15) fun σ H Q q => by
    obtain ⟨w, env, A, q⟩ := q
    intro p hp
    rw [← A.H] at hp ⊢
    have e1 := Ext.cellNew (o := .dK []) (c := .dk [] []) A.rel.ok hp
    have ok1 : Wok (w.cellNew p (.dK []) (.dk [] [])) := A.rel.ok.cellNew hp ⟨[], by
      show upd _ p _ (if w.mem.length = w.mem.length then p else _) = _
      rw [if_pos rfl, upd_same]
      rfl, rfl, .nil⟩
    have A1 := A.go e1 ok1
    refine pairs_word (w := w.cellNew p (.dK []) (.dk [] [])) A1 ?_
    have q : Out G w σ (PD Q) ((fPairs prs env (w.mem ++ [some (.dk [] [])])).bind fun ps m2 => match m2[w.mem.length]?, keysAll ps with
      | some (some (.dk [] [])), some ks => if (decide (ks.length ≤ 15) && nodupB ks) = true then leaveD false w.mem.length (.dk ks (ps.map (·.2))) (m2.set w.mem.length none) else .st
      | _, _ => .st) := q
    show Out G _ σ _ (fPairs prs env (w.mem ++ [some (.dk [] [])]))
    cases hf : fPairs prs env (w.mem ++ [some (.dk [] [])]) with
    | st => rw [hf] at q; exact q
    | ex c' f' d' m' => rw [hf] at q; exact Out.ext (r := (.ex c' f' d' m' : R (List (D × D)))) (P := fun ps w' => ∀ qs, RepP w' ps qs → _) q e1
    | ok ps m2 =>
      rw [hf] at q
      dsimp only [R.bind] at q
      intro w2 e2 hm2 ok2 qs rq
      subst hm2
      split at q
      · rename_i kk hc hk
        by_cases hz : (decide (kk.length ≤ 15) && nodupB kk) = true
        · rw [if_pos hz] at q
          rw [Bool.and_eq_true] at hz
          obtain ⟨us, e3, l, r, l2⟩ := keys_of rq hk
          obtain ⟨vs0, hH, _, r0⟩ := ok2.cell _ _ hc
          have had : w2.ad w.mem.length = p := by
            rw [e2.adr _ (by show w.mem.length < (w.mem ++ [some (C.dk [] [])]).length; simp)]
            exact if_pos rfl
          rw [had] at hH
          cases r0
          have ml : mergeK [] (kk.zip us) = kk.zip us := by
            have z := merge_nodup (more := kk.zip us) (acc := []) (by rw [List.map_fst_zip (by omega)]; exact hz.2) (fun p hp => by cases hp)
            simpa using z
          refine ⟨hH, kk.zip us, e3, by rw [List.length_zip, l, Nat.min_self, ← l]; exact of_decide_eq_true hz.1, ?_⟩
          rw [ml]
          have ex := Ext.cellSet (o := .dK (kk.zip us)) (c' := .dk kk (ps.map (·.2))) ok2 hc
          have ok3 := cellSet_dk (ks := kk) (ds := ps.map (·.2)) ok2 hc l2 r
          have hc3 : (w2.cellSet w.mem.length (.dK (kk.zip us)) (.dk kk (ps.map (·.2)))).mem[w.mem.length]? = some (some (.dk kk (ps.map (·.2)))) := by
            show (w2.mem.set _ _)[_]? = _
            rw [List.getElem?_set_self (lt_of_mem hc)]
          have fin := cut_out (Q := Q) (ct := .dk kk (ps.map (·.2))) ok3 ((e1.trans e2).trans ex) rfl hc3 (by
            show Out G w σ (PD Q) (leaveD false w.mem.length (.dk kk (ps.map (·.2))) ((w2.mem.set w.mem.length (some (.dk kk (ps.map (·.2))))).set w.mem.length none))
            rw [List.set_set]
            exact q)
          have fin2 : Q (.ref (w2.ad w.mem.length)) (upd w2.H (w2.ad w.mem.length) (.dK (kk.zip us))) := fin
          rw [had] at fin2
          exact fin2
        · rw [if_neg hz] at q
          exact q.st'.elim
      · exact q.st'.elim
end

/-! ### small facts the terms lean on -/
theorem _root_.L2.Room.u1 {k : Nat} {A : Around} (r : Room k A) : A.units + 1 < cLine := by have := r.un; omega
theorem _root_.L2.Room.u65 {k : Nat} {A : Around} (r : Room k A) : A.units + 65 < cLine := by have := r.un; omega
section
variable {CX : CXT} {P : Program} {w : World} {K : PySem.W.Frag} {mg : Str → Option Value} {base : Heap} {cl : Str → Addr} {N : List Str} {qual : Str} {scope : Scope} {f : Addr} {cd : Value} {A : Around} {outer : List PySem.Env} {s : Shared} {H : Hp} {E : XK}
theorem tkF : Takes (cxOf (L2.CX P w) P w K mg base N qual scope f cd A outer s H E) (Gf cl E).W := takes_of rfl rfl rfl rfl
theorem ppF : PassesOwn (model P w) (cxOf (L2.CX P w) P w K mg base N qual scope f cd A outer s H E).A (cxOf (L2.CX P w) P w K mg base N qual scope f cd A outer s H E).env (cxOf (L2.CX P w) P w K mg base N qual scope f cd A outer s H E).xe := passes_of rfl
variable {X : Cx}
theorem chLt : OpR X (compareOp .Lt) (rI0 fun i j => .bl (decide (i < j))) := op_lt
theorem chLe : OpR X (compareOp .LtE) (rI0 fun i j => .bl (decide (i ≤ j))) := op_le
theorem chGt : OpR X (compareOp .Gt) (rI0 fun i j => .bl (decide (j < i))) := op_gt
theorem chGe : OpR X (compareOp .GtE) (rI0 fun i j => .bl (decide (j ≤ i))) := op_ge
end
end DL
/-! DL15: the words that the printed terms use. -/
namespace DL
open PySem PySem.Spec PyProof.Rows L2

/-! ### a def that is known -/
abbrev FnAt (K : PySem.W.Frag) (x q : Str) (st : Stmt) (f : Addr) (fd : FuncData) : Prop := FunD K x q (defArgs st) (defBody st) (defScope st) [] [] f fd
/-- a def of the text and its meaning -/
def DefOk (P : Program) (w : World) (K : PySem.W.Frag) (mg : Str → Option Value) (base : Heap) (cl : Str → Addr) (k : Nat) (x : Str) (st : Stmt) (ps : List Str) (g : Mean) : Prop :=
  ∃ (f : Addr) (fd : FuncData), mg x = some (.ref f) ∧ FnAt K x x st f fd ∧ L2.Binds K fd ps [] ∧ FnOk P w K mg base (L2.CX P w) k f fd ps (spD K cl ps.length g)
/-- .. where it stands -/
def DefIs (K : PySem.W.Frag) (mg : Str → Option Value) (x : Str) (st : Stmt) (ps : List Str) : Prop :=
  ∃ (f : Addr) (fd : FuncData), mg x = some (.ref f) ∧ FnAt K x x st f fd ∧ L2.Binds K fd ps []
section
variable {P : Program} {w : World} {K : PySem.W.Frag} {mg : Str → Option Value} {base : Heap} {cl : Str → Addr} {N ps : List Str} {fb : FS} {x : Str} {st : Stmt} {k : Nat}
theorem def_ok (keep : Bool) (np nl : Nat) (hnp : ps.length = np) (hnl : N.length = nl) (D : DefIs K mg x st ps) (S : FnScope N ps (defScope st))
    (hbody : ∀ (f : Addr) (cdv : Value) (A : Around) (outer : List PySem.Env) (s : Shared) (H : Hp) (E : XK), Room k (A.deeper (envOfC x (defScope st) s.heap.objs.size f cdv)) →
      DSs (cxOf (L2.CX P w) P w K mg base N x (defScope st) f cdv A outer s H E) (Gf cl E) (defBody st) fb) : DefOk P w K mg base cl (k + 1) x st ps (fnM keep np nl fb) := by
  subst hnp hnl
  obtain ⟨f, fd, h1, h2, h3⟩ := D
  exact ⟨f, fd, h1, h2, h3, fun_ok keep h2 S fun cdv A outer s H E hr => hbody f cdv A outer s H E hr⟩
/-- the law's own def, whatever function object it is -/
theorem def_all (keep : Bool) (np nl : Nat) (hnp : ps.length = np) (hnl : N.length = nl) (S : FnScope N ps (defScope st))
    (hbody : ∀ (f : Addr) (cdv : Value) (A : Around) (outer : List PySem.Env) (s : Shared) (H : Hp) (E : XK), Room k (A.deeper (envOfC x (defScope st) s.heap.objs.size f cdv)) →
      DSs (cxOf (L2.CX P w) P w K mg base N x (defScope st) f cdv A outer s H E) (Gf cl E) (defBody st) fb) {f : Addr} {fd : FuncData} (F : FnAt K x x st f fd) : FnOk P w K mg base (L2.CX P w) (k + 1) f fd ps (spD K cl np (fnM keep np nl fb)) := by
  subst hnp hnl
  exact fun_ok keep F S fun cdv A outer s H E hr => hbody f cdv A outer s H E hr
theorem def_no (D : DefIs K mg x st ps) : DefOk P w K mg base cl k x st ps fun _ _ => .st := by
  obtain ⟨f, fd, h1, h2, h3⟩ := D
  exact ⟨f, fd, h1, h2, h3, fun_no⟩
end
section
variable {X : Cx} {G : Dx} {j k n : Nat} {ps ks : List Str} {g : Mean} {x : Str} {st : Stmt} {p pos : Pos} {e : Expr} {es : List Expr} {fs fk : FA} {kws : List Keyword}
theorem de_callX (c : DefOk X.prog X.w X.K X.mg X.base G.cl k x st ps g) (tk : Takes X G.W) (hr : Room j X.A) (ha : DA X G (e :: es) fs) (hkj : k ≤ j := by decide) (ar : Ar ps.length g := by first | exact ar_fnM | assumption) (hg : Gl X x := by rfl)
    (hdb : (x == ("__debug__" : Str)) = false := by decide) (he : starEach (e :: es) X.env = (false, eval e X.env) :: starEach es X.env := by rfl) (hpl : (backTo pos (starEach es X.env)).any (·.1) = false := by rfl) :
    DE X G (.Call (.Name x p) (e :: es) [] pos) (fApp g fs) := by
  obtain ⟨f, fd, h1, h2, h3, h4⟩ := c
  exact de_call ar h4 tk (hr.mono hkj) hg h1 h2.kp h3 ha hdb he hpl
theorem de_callX0 (c : DefOk X.prog X.w X.K X.mg X.base G.cl k x st [] g) (tk : Takes X G.W) (hr : Room j X.A) (hkj : k ≤ j := by decide) (ar : Ar 0 g := by first | exact ar_fnM | assumption) (hg : Gl X x := by rfl)
    (hdb : (x == ("__debug__" : Str)) = false := by decide) : DE X G (.Call (.Name x p) [] [] pos) (fApp g aNil) := by
  obtain ⟨f, fd, h1, h2, h3, h4⟩ := c
  exact de_call0 ar h4 tk (hr.mono hkj) hg h1 h2.kp h3 hdb
def KwFits (st : Stmt) (x : Str) (ps ks : List Str) (is : List Nat) : Prop := ∀ (kV doc pm : Value) (an : Option Addr) (cdv ct : Value) (ws : List Value), ws.length = ks.length → bindArgs (PySem.W.fnOf x x (defArgs st) (defBody st) (defScope st) .none kV doc pm an cdv ct) ⟨[], ks.zip ws⟩ = pure (ps.zip (pickAll is ws))
theorem KwFits.ok {K : PySem.W.Frag} {is : List Nat} {f : Addr} {fd : FuncData} (h : KwFits st x ps ks is) (F : FnAt K x x st f fd) : KwOk fd ps ks is := by
  obtain ⟨oc, od, dV, kV, doc, pm, an, cdv, ct, osl, rfl, lk, hcd, hD, hK⟩ := F.ex
  rcases hD with ⟨_, rfl⟩ | ⟨e, _⟩
  · exact ⟨fun ws hl => h kV doc pm an cdv ct ws hl⟩
  · exact absurd rfl e
theorem len_nil : ∀ (env : Env) (m : Mem) (ds : List D) (m' : Mem), aNil env m = .ok ds m' → ds.length = 0 := fun env m ds m' h => by cases h; rfl
theorem len_cons {fe : FE} {fs : FA} {n : Nat} (h : ∀ (env : Env) (m : Mem) (ds : List D) (m' : Mem), fs env m = .ok ds m' → ds.length = n) : ∀ (env : Env) (m : Mem) (ds : List D) (m' : Mem), aCons fe fs env m = .ok ds m' → ds.length = n + 1 := fun env m ds m' q => by
  cases h1 : fe env m with
  | ok d m1 =>
    cases h2 : fs env m1 with
    | ok ds2 m2 =>
      simp only [aCons, h1, h2, R.bind] at q
      cases q
      rw [List.length_cons, h _ _ _ _ h2]
    | ex c f d m => simp only [aCons, h1, h2, R.bind] at q; cases q
    | st => simp only [aCons, h1, h2, R.bind] at q; cases q
  | ex c f d m => simp only [aCons, h1, R.bind] at q; cases q
  | st => simp only [aCons, h1, R.bind] at q; cases q
theorem de_callKX (is : List Nat) (c : DefOk X.prog X.w X.K X.mg X.base G.cl k x st ps g) (tk : Takes X G.W) (hr : Room j X.A) (hkw : KwFits st x ps ks is) (ha : DK X G kws fk) (hfl : ∀ env m ds m', fk env m = .ok ds m' → ds.length = kws.length) (hlen : kws.length = ks.length := by rfl) (hkj : k ≤ j := by decide) (ar : Ar ps.length g := by first | exact ar_fnM | assumption) (hg : Gl X x := by rfl)
    (hall : (backToKw pos (keywordEach kws X.env)).all (·.1.isSome) = true := by rfl) (hks : (backToKw pos (keywordEach kws X.env)).filterMap (·.1) = ks := by rfl)
    (hdb : (x == ("__debug__" : Str)) = false := by decide) (hpl : ((backTo pos (starEach [] X.env)).any (·.1) || (backToKw pos (keywordEach kws X.env)).any (·.1.isNone)) = false := by rfl) :
    DE X G (.Call (.Name x p) [] kws pos) (fAppK g is fk) := by
  obtain ⟨f, fd, h1, h2, h3, h4⟩ := c
  exact de_callK ar h4 tk (hr.mono hkj) hg h1 h2.kp (hkw.ok h2) hlen ha hfl hall hks hdb hpl
end
/-- C(..) -/
def MakIs (K : PySem.W.Frag) (cl : Str → Addr) (c : Str) (q : Str) (st : Stmt) (ps : List Str) : Prop := ∃ (f : Addr) (fd : FuncData), Mk K (cl c) f ∧ FnAt K "__init__" q st f fd ∧ L2.Binds K fd ps []
def MakOk (P : Program) (w : World) (K : PySem.W.Frag) (mg : Str → Option Value) (base : Heap) (cl : Str → Addr) (k : Nat) (c : Str) (ps : List Str) (g : Mean) : Prop :=
  mg c = some (.ref (cl c)) ∧ ∃ (f : Addr) (fd : FuncData), Mk K (cl c) f ∧ L2.Binds K fd ps [] ∧ FnOk P w K mg base (L2.CX P w) k f fd ps (spD K cl ps.length g)
/-- a == b -/
def EqvIs (K : PySem.W.Frag) (cl : Str → Addr) (c : Str) (q : Str) (st : Stmt) (ps : List Str) : Prop := ∃ (f : Addr) (fd : FuncData), PySem.W.findIn K (.ref (cl c)) "__eq__" = some (some (.ref f)) ∧ PySem.W.isFn K (.ref f) = true ∧ FnAt K "__eq__" q st f fd ∧ L2.Binds K fd ps []
def EqvOk (P : Program) (w : World) (K : PySem.W.Frag) (mg : Str → Option Value) (base : Heap) (cl : Str → Addr) (k : Nat) (c : Str) (g : Mean) : Prop :=
  ∃ (f : Addr) (fd : FuncData) (ps : List Str), PySem.W.findIn K (.ref (cl c)) "__eq__" = some (some (.ref f)) ∧ PySem.W.isFn K (.ref f) = true ∧ L2.Binds K fd ps [] ∧ FnOk P w K mg base (L2.CX P w) k f fd ps (spD K cl 2 g)
section
variable {P : Program} {w : World} {K : PySem.W.Frag} {mg : Str → Option Value} {base : Heap} {cl : Str → Addr} {N ps : List Str} {fb : FS} {c q : Str} {st : Stmt} {k : Nat}
theorem mak_ok (keep : Bool) (np nl : Nat) (hnp : ps.length = np) (hnl : N.length = nl) (hm : mg c = some (.ref (cl c))) (D : MakIs K cl c q st ps) (S : FnScope N ps (defScope st))
    (hbody : ∀ (f : Addr) (cdv : Value) (A : Around) (outer : List PySem.Env) (s : Shared) (H : Hp) (E : XK), Room k (A.deeper (envOfC q (defScope st) s.heap.objs.size f cdv)) →
      DSs (cxOf (L2.CX P w) P w K mg base N q (defScope st) f cdv A outer s H E) (Gf cl E) (defBody st) fb) : MakOk P w K mg base cl (k + 1) c ps (fnM keep np nl fb) := by
  subst hnp hnl
  obtain ⟨f, fd, h1, h2, h3⟩ := D
  exact ⟨hm, f, fd, h1, h3, fun_ok keep h2 S fun cdv A outer s H E hr => hbody f cdv A outer s H E hr⟩
theorem eqv_ok (keep : Bool) (nl : Nat) (hnl : N.length = nl) (D : EqvIs K cl c q st ps) (S : FnScope N ps (defScope st)) (h2' : ps.length = 2)
    (hbody : ∀ (f : Addr) (cdv : Value) (A : Around) (outer : List PySem.Env) (s : Shared) (H : Hp) (E : XK), Room k (A.deeper (envOfC q (defScope st) s.heap.objs.size f cdv)) →
      DSs (cxOf (L2.CX P w) P w K mg base N q (defScope st) f cdv A outer s H E) (Gf cl E) (defBody st) fb) : EqvOk P w K mg base cl (k + 1) c (fnM keep 2 nl fb) := by
  subst hnl
  obtain ⟨f, fd, h1, h2, h3, h4⟩ := D
  have F := fun_ok (base := base) (mg := mg) (cl := cl) (fb := fb) (k := k) keep h3 S fun cdv A outer s H E hr => hbody f cdv A outer s H E hr
  rw [h2'] at F
  exact ⟨f, fd, ps, h1, h2, h4, F⟩
variable {X : Cx} {G : Dx} {j : Nat} {g : Mean} {x : Str} {p pos : Pos} {e : Expr} {es : List Expr} {fs : FA}
theorem de_makeX (n : Nat) (C : MakOk X.prog X.w X.K X.mg X.base G.cl k c ps g) (tk : Takes X G.W) (hr : Room j X.A) (ha : DA X G (e :: es) fs) (hn : ps.length = n := by rfl) (hkj : k + 1 ≤ j := by decide) (ar : Ar n g := by exact ar_fnM) (hg : Gl X c := by rfl)
    (hdb : (c == ("__debug__" : Str)) = false := by decide) (he : starEach (e :: es) X.env = (false, eval e X.env) :: starEach es X.env := by rfl) (hpl : (backTo pos (starEach es X.env)).any (·.1) = false := by rfl) :
    DE X G (.Call (.Name c p) (e :: es) [] pos) (fMake c g fs) := by
  obtain ⟨h0, f, fd, h1, h2, h3⟩ := C
  rw [hn] at h3
  exact de_make ar h1 h3 tk (hr.mono hkj) hg h0 h2 ha hdb he hpl
theorem eqX (C : EqvOk X.prog X.w X.K X.mg X.base G.cl k c g) (hr : Room j X.A) (hkj : k ≤ j := by decide) (ar : Ar 2 g := by exact ar_fnM) : Suits X G (compareOp .Eq) (opOwn c g) := by
  obtain ⟨f, fd, ps, h1, h2, h3, h4⟩ := C
  exact suits_own ar h4 (hr.mono hkj) h1 h2 h3
end
/-! ### name = [..] -/
section
variable {X : Cx} {G : Dx} {elt tge iter : Expr} {ifs : List Expr} {scope : Scope} {pos : Pos} {fi : FI} {tg : TgD} {ts : List Nat} {ft : FT} {fe : FE} {i : Nat} {y : Str} {py spos : Pos}
theorem set_lcT (own : List (Str × Nat)) (hc : X.calm = true) (hN : X.N.Nodup) (hi : DI X G tge iter fi) (ok : BlkOk X.N X.env.scope scope own)
    (hg : ∀ (s : Shared) (H : Hp) (C : Addr) (cl : List (Str × Addr)) (fp : List Addr), DG (Blk X scope s H C cl fp) G.noW tge tg ts) (ht : ∀ (s : Shared) (H : Hp) (C : Addr) (cl : List (Str × Addr)) (fp : List Addr), DTs (Blk X scope s H C cl fp) G.noW ifs ft)
    (he : ∀ (s : Shared) (H : Hp) (C : Addr) (cl : List (Str × Addr)) (fp : List Addr), DE (Blk X scope s H C cl fp) G.noW elt fe) (hy : X.N[i]? = some y := by rfl) (hyl : X.env.scope.names.lookup y = some .local := by rfl)
    (hsw : swapsWith (.ListComp elt [⟨tge, iter, ifs, 0⟩] scope pos) (some (.Name y py)) spos.line X.env = pure true := by exact sw_true rfl rfl rfl rfl) (hts : ∀ t ∈ ts, t ∈ own.map (·.2) := by decide) (hs : ∀ x, foldedSetIterable iter X.env x = pure x := by intro _; rfl) :
    DSt X G (.Assign [.Name y py] (.ListComp elt [⟨tge, iter, ifs, 0⟩] scope pos) spos) (fSet i (fLc fi (own.map (·.2)) tg ft fe)) := set_lc own false hc hN hi ok hg ht he hy hyl hsw hts hs
theorem set_lcC (own : List (Str × Nat)) (hc : X.calm = true) (hN : X.N.Nodup) (hi : DI X G tge iter fi) (ok : BlkOk X.N X.env.scope scope own)
    (hg : ∀ (s : Shared) (H : Hp) (C : Addr) (cl : List (Str × Addr)) (fp : List Addr), DG (Blk X scope s H C cl fp) G.noW tge tg ts) (ht : ∀ (s : Shared) (H : Hp) (C : Addr) (cl : List (Str × Addr)) (fp : List Addr), DTs (Blk X scope s H C cl fp) G.noW ifs ft)
    (he : ∀ (s : Shared) (H : Hp) (C : Addr) (cl : List (Str × Addr)) (fp : List Addr), DE (Blk X scope s H C cl fp) G.noW elt fe) (hy : X.N[i]? = some y := by rfl) (hyl : X.env.scope.names.lookup y = some .local := by rfl)
    (hsw : swapsWith (.ListComp elt [⟨tge, iter, ifs, 0⟩] scope pos) (some (.Name y py)) spos.line X.env = pure true := by exact sw_true rfl rfl rfl rfl) (hts : ∀ t ∈ ts, t ∈ own.map (·.2) := by decide) (hs : ∀ x, foldedSetIterable iter X.env x = pure x := by intro _; rfl) :
    DSt X G (.Assign [.Name y py] (.ListComp elt [⟨tge, iter, ifs, 0⟩] scope pos) spos) (fSet i (fLcC fi (own.map (·.2)) tg ft fe)) := set_lc own true hc hN hi ok hg ht he hy hyl hsw hts hs
end
/-! ### own exception classes -/
/-- what the head checks of one: a single field fld, made by __init__ -/
def excB (K : PySem.W.Frag) (fld x : Str) : Bool := oexB K (He.ga K x) && (He.eqO (PySem.W.findIn K (.ref (He.ga K x)) fld) (some none) && (He.eqO (PySem.W.findIn K (.ref (He.ga K x)) "__init__") (some (some (.ref (He.ma K (He.ga K x) "__init__")))) &&
  (decide (PySem.W.typeIn K (.ref (He.ma K (He.ga K x) "__init__")) = some (.type "function")) && xfB K (He.ga K x))))
abbrev ExcF (K : PySem.W.Frag) (fld x : Str) : Prop := OexC K (He.ga K x) ∧ PySem.W.findIn K (.ref (He.ga K x)) fld = some none ∧ PySem.W.findIn K (.ref (He.ga K x)) "__init__" = some (some (.ref (He.ma K (He.ga K x) "__init__"))) ∧
    PySem.W.typeIn K (.ref (He.ma K (He.ga K x) "__init__")) = some (.type "function") ∧ XfC K (He.ga K x) 
theorem excB_ok {K : PySem.W.Frag} {fld x : Str} (h : excB K fld x = true) : ExcF K fld x := by
  unfold excB at h
  simp only [Bool.and_eq_true] at h
  obtain ⟨h1, h2, h3, h4, h5⟩ := h
  exact ⟨oexB_ok h1, He.eqO_ok h2, He.eqO_ok h3, of_decide_eq_true h4, xfB_ok h5⟩
def hitB (K : PySem.W.Frag) (xs ys : List Str) (hit : Str → Str → Bool) : Bool := xs.all fun c => ys.all fun x => decide (PySem.W.exmOne K (.ref (He.ga K c)) (.ref (He.ga K x)) = some (hit c x))
theorem hitB_ok {K : PySem.W.Frag} {xs ys : List Str} {hit : Str → Str → Bool} (h : hitB K xs ys hit = true) : ∀ c ∈ xs, ∀ (x : Str), x ∈ ys → PySem.W.exmOne K (.ref (He.ga K c)) (.ref (He.ga K x)) = some (hit c x) := fun c hc x hx =>
  of_decide_eq_true (List.all_eq_true.mp (List.all_eq_true.mp h c hc) x hx)
def noatB (K : PySem.W.Frag) (cs fsn : List Str) : Bool := cs.all fun c => fsn.all fun f => He.eqO (PySem.W.findIn K (.ref (He.ga K c)) f) (some none)
theorem noatB_ok {K : PySem.W.Frag} {cs fsn : List Str} (h : noatB K cs fsn = true) : ∀ c ∈ cs, ∀ f ∈ fsn, NoAttr K (He.ga K c) f := fun c hc f hf => He.eqO_ok (List.all_eq_true.mp (List.all_eq_true.mp h c hc) f hf)
def eqvB (K : PySem.W.Frag) (x : Str) : Bool := He.eqO (PySem.W.findIn K (.ref (He.ga K x)) "__eq__") (some (some (.ref (He.ma K (He.ga K x) "__eq__")))) && PySem.W.isFn K (.ref (He.ma K (He.ga K x) "__eq__"))
theorem eqvB_ok {K : PySem.W.Frag} {x : Str} (h : eqvB K x = true) : PySem.W.findIn K (.ref (He.ga K x)) "__eq__" = some (some (.ref (He.ma K (He.ga K x) "__eq__"))) ∧ PySem.W.isFn K (.ref (He.ma K (He.ga K x) "__eq__")) = true := by
  unfold eqvB at h
  rw [Bool.and_eq_true] at h
  exact ⟨He.eqO_ok h.1, h.2⟩
/-! ### list * n as a cell -/
def opMulC (m : Mem) (a b : D) : R D := match b with
  | .int k => match mulL m a k with
    | .ok (.lst xs) m1 => mkCell (.lst xs) m1
    | _ => .st
  | _ => .st
section
variable {X : Cx} {G : Dx}
theorem suits_mulC : Suits X G (binaryOp .Mult) opMulC := fun m a b => by
  unfold opMulC
  cases b with
  | int k =>
    dsimp only
    cases ha : lstOf m a with
    | none => exact .inl (by unfold mulL; rw [ha])
    | some xs =>
      by_cases hz : -(2 ^ 63) ≤ k ∧ k < 2 ^ 63 ∧ xs.length * k.toNat ≤ sizeLine
      · refine .inr ⟨_, op_rep, fun w σ env x y Q hm A rx ry o => ?_⟩
        subst hm
        obtain ⟨p, vs, rfl, e1, q1⟩ := rx.aslst A.rel.ok ha
        cases ry
        have e : mulL w.mem a k = .ok (.lst (List.replicate k.toNat xs).flatten) w.mem := by
          unfold mulL
          rw [ha]
          exact if_pos hz
        rw [e] at o
        exact ⟨p, k, vs, rfl, rfl, e1, hz.1, hz.2.1, by rw [← q1.len]; exact hz.2.2, fun l hl => out_cellL A.rel.ok o (q1.rep _) hl⟩
      · exact .inl (by unfold mulL; rw [ha]; simp only [if_neg hz])
  | _ => exact .inl rfl
end
/-! ### the Hook: the facts, the defs, one Bool more; the written part holds the statics too -/
abbrev AlY : Type := He.AlD × Bool
def frY (n : Nat) (g : Addr → Option Obj) : PySem.W.Frag := He.frG g (cStatics :: He.asD g n)
def obsY (n : Nat) (fa : List He.Fa) (fn : List He.DefD) (ex : PySem.W.Frag → Bool) (g : Addr → Option Obj) : AlY := (He.obsD fa fn (frY n g), ex (frY n g))
structure SaysY (fa : List He.Fa) (fn : List He.DefD) (ex : PySem.W.Frag → Bool) (K : PySem.W.Frag) : Prop where
  d : He.SaysD fa fn K
  more : ex K = true
def hookY (n : Nat) (fa : List He.Fa) (fn : List He.DefD) (ex : PySem.W.Frag → Bool) : PySem.W.Hook where
  α := AlY
  obs := fun s => obsY n fa fn ex s.heap.get?
  val := fun _ => (He.valD fn, true)
  says := fun _ h => ∃ K : PySem.W.Frag, K.In h ∧ SaysY fa fn ex K
  of := fun _ _ e => ⟨_, He.frG_in, congrArg (fun z : AlY => z.1) e, congrArg (fun z : AlY => z.2) e⟩
  keeps := fun _ _ _ ⟨K, hK, c⟩ k => ⟨K, PySem.W.Frag.In.keeps hK k, c⟩
theorem obsY_eq {n : Nat} {fa : List He.Fa} {fn : List He.DefD} {ex : PySem.W.Frag → Bool} {g : Addr → Option Obj} {s : Shared} (h : ∀ a, g a = s.heap.get? a) : obsY n fa fn ex g = (hookY n fa fn ex).obs s := by
  have e : g = s.heap.get? := funext h
  rw [e] <;> rfl
end DL
/-! DL16: sorted, of tuples of a text and ints. -/
namespace DL
open PySem PySem.Spec PyProof.Rows L2

abbrev TK : Type := Str × List Int
def lexI : List Int → List Int → Bool
  | [], [] => false
  | [], _ :: _ => true
  | _ :: _, [] => false
  | a :: as, b :: bs => if a = b then lexI as bs else decide (a < b)
def klt (p q : TK) : Bool := if p.1 = q.1 then lexI p.2 q.2 else decide (p.1.cps.toList < q.1.cps.toList)
/-- a strict linear order -/
structure Slo {α : Type} (lt : α → α → Bool) : Prop where
  ir : ∀ x, lt x x = false
  tr : ∀ x y z, lt x y = true → lt y z = true → lt x z = true
  tri : ∀ x y, lt x y = false → lt y x = false → x = y
theorem slo_lexI : Slo lexI where
  ir := fun x => by
    induction x with
    | nil => rfl
    | cons a as ih => simp [lexI, ih]
  tr := fun x => by
    induction x with
    | nil =>
      intro y z h1 h2
      cases y with
      | nil => simp [lexI] at h1
      | cons b bs =>
        cases z with
        | nil => simp [lexI] at h2
        | cons c cs => rfl
    | cons a as ih =>
      intro y z h1 h2
      cases y with
      | nil => simp [lexI] at h1
      | cons b bs =>
        cases z with
        | nil => simp [lexI] at h2
        | cons c cs =>
          unfold lexI at h1 h2 ⊢
          by_cases e1 : a = b
          · rw [if_pos e1] at h1
            by_cases e2 : b = c
            · rw [if_pos e2] at h2
              rw [if_pos (e1.trans e2)]
              exact ih _ _ h1 h2
            · rw [if_neg e2] at h2
              rw [if_neg (by rw [e1]; exact e2), e1]
              exact h2
          · rw [if_neg e1] at h1
            have h1 := of_decide_eq_true h1
            by_cases e2 : b = c
            · rw [if_neg (by rw [← e2]; exact e1), ← e2]
              exact decide_eq_true h1
            · rw [if_neg e2] at h2
              have h2 := of_decide_eq_true h2
              rw [if_neg (by omega)]
              exact decide_eq_true (by omega)
  tri := fun x => by
    induction x with
    | nil =>
      intro y h1 h2
      cases y with
      | nil => rfl
      | cons b bs => simp [lexI] at h1
    | cons a as ih =>
      intro y h1 h2
      cases y with
      | nil => simp [lexI] at h2
      | cons b bs =>
        unfold lexI at h1 h2
        by_cases e : a = b
        · rw [if_pos e] at h1
          rw [if_pos e.symm] at h2
          rw [e, ih _ h1 h2]
        · rw [if_neg e] at h1
          rw [if_neg (fun z => e z.symm)] at h2
          have h1 := of_decide_eq_false h1
          have h2 := of_decide_eq_false h2
          omega
theorem str_ext {x y : Str} (h : x.cps.toList = y.cps.toList) : x = y := by
  obtain ⟨⟨a⟩⟩ := x
  obtain ⟨⟨b⟩⟩ := y
  simp at h
  rw [h]
theorem slo_klt : Slo klt where
  ir := fun x => by simp [klt, slo_lexI.ir]
  tr := fun x y z h1 h2 => by
    unfold klt at h1 h2 ⊢
    by_cases e1 : x.1 = y.1
    · rw [if_pos e1] at h1
      by_cases e2 : y.1 = z.1
      · rw [if_pos e2] at h2
        rw [if_pos (e1.trans e2)]
        exact slo_lexI.tr _ _ _ h1 h2
      · rw [if_neg e2] at h2
        rw [if_neg (by rw [e1]; exact e2), e1]
        exact h2
    · rw [if_neg e1] at h1
      have h1 := of_decide_eq_true h1
      by_cases e2 : y.1 = z.1
      · rw [if_neg (by rw [← e2]; exact e1), ← e2]
        exact decide_eq_true h1
      · rw [if_neg e2] at h2
        have h2 := of_decide_eq_true h2
        have h3 := List.lt_trans h1 h2
        rw [if_neg (fun e => by rw [e] at h3; exact List.lt_irrefl _ h3)]
        exact decide_eq_true h3
  tri := fun x y h1 h2 => by
    unfold klt at h1 h2
    by_cases e : x.1 = y.1
    · rw [if_pos e] at h1
      rw [if_pos e.symm] at h2
      exact Prod.ext e (slo_lexI.tri _ _ h1 h2)
    · rw [if_neg e] at h1
      rw [if_neg (fun z => e z.symm)] at h2
      exact absurd (str_ext (List.le_antisymm (List.not_lt.1 (of_decide_eq_false h2)) (List.not_lt.1 (of_decide_eq_false h1)))) e
theorem Slo.swo {α β : Type} {lt : α → α → Bool} (S : Slo lt) (k : β → α) : SrtO.Swo fun v u => lt (k v) (k u) := by
  refine ⟨fun x y h => ?_, fun x y z h1 h2 => ?_⟩
  · cases h2 : lt (k y) (k x) with
    | false => rfl
    | true =>
      have z := S.tr _ _ _ h h2
      rw [S.ir] at z
      cases z
  · cases h3 : lt (k z) (k x) with
    | false => rfl
    | true =>
      cases h4 : lt (k x) (k y) with
      | true =>
        have q := S.tr _ _ _ h3 h4
        rw [h2] at q
        cases q
      | false =>
        have e := S.tri _ _ h4 h1
        rw [e, h2] at h3
        cases h3
def sortK (ks : List TK) : List TK := ks.mergeSort fun a b => !klt b a
theorem sortK_perm (ks : List TK) : (sortK ks).Perm ks := List.mergeSort_perm ks _
theorem sortK_uniq {ks out : List TK} (hp : out.Perm ks) (hs : out.Pairwise fun x y => klt y x = false) : out = sortK ks := by
  have h2 : (sortK ks).Pairwise fun x y => klt y x = false := by
    have z := List.pairwise_mergeSort (le := fun a b : TK => !klt b a) (fun a b c h1 h2 => by
      have h1 : klt b a = false := by simpa using h1
      have h2 : klt c b = false := by simpa using h2
      have := (slo_klt.swo (fun x : TK => x)).tr a b c h1 h2
      simpa using this) (fun a b => by
      cases h : klt b a with
      | false => rfl
      | true =>
        have := (slo_klt.swo (fun x : TK => x)).asym b a h
        simp [this]) ks
    exact z.imp fun {x y} h => by simpa using h
  exact List.Perm.eq_of_pairwise (fun a b _ _ h1 h2 => slo_klt.tri a b h2 h1) hs h2 (hp.trans (sortK_perm ks).symm)

/-! ### values -/
def IsTK (h : Heap) (v : Value) (k : TK) : Prop := ∃ (a : Addr) (o : Obj) (n : Nat) (us : List Value), v = .ref a ∧ h.get? a = some o ∧ o.cls = .type "tuple" ∧ o.data = .seq us.toArray n ∧ Vals (V.str k.1 :: k.2.map V.int) us
theorem IsTK.uniq {h : Heap} {v : Value} {k j : TK} (x : IsTK h v k) (y : IsTK h v j) : k = j := by
  obtain ⟨a, o, n, us, rfl, h1, h2, h3, h4⟩ := x
  obtain ⟨b, o', n', us', e, g1, g2, g3, g4⟩ := y
  cases e
  rw [h1] at g1
  cases g1
  rw [h3] at g3
  have eu : us = us' := by
    have z := (Data.seq.inj g3).1
    simpa using z
  subst eu
  have ev : ∀ {xs ys : List V} {us : List Value}, Vals xs us → Vals ys us → (∀ x ∈ xs, (∃ s, x = .str s) ∨ ∃ i, x = .int i) → (∀ x ∈ ys, (∃ s, x = .str s) ∨ ∃ i, x = .int i) → xs = ys := by
    intro xs ys us r
    induction r generalizing ys with
    | nil => intro s _ _; cases s; rfl
    | @cons x u xs us p q ih =>
      intro s hx hy
      cases s with
      | @cons y _ ys _ p' q' =>
        rw [ih q' (fun z hz => hx z (List.mem_cons_of_mem _ hz)) (fun z hz => hy z (List.mem_cons_of_mem _ hz))]
        rcases hx x List.mem_cons_self with ⟨s, rfl⟩ | ⟨i, rfl⟩
        · obtain ⟨t, rfl⟩ := p
          rcases hy y List.mem_cons_self with ⟨s', rfl⟩ | ⟨i, rfl⟩
          · obtain ⟨t', e⟩ := p'
            cases e
            rfl
          · obtain ⟨t', e⟩ := p'
            cases e
        · obtain ⟨t, rfl⟩ := p
          rcases hy y List.mem_cons_self with ⟨s', rfl⟩ | ⟨i, rfl⟩
          · obtain ⟨t', e⟩ := p'
            cases e
          · obtain ⟨t', e⟩ := p'
            cases e
            rfl
  have flat : ∀ k : TK, ∀ x ∈ V.str k.1 :: k.2.map V.int, (∃ s, x = .str s) ∨ ∃ i, x = .int i := fun k x hx => by
    rcases List.mem_cons.mp hx with rfl | hx
    · exact .inl ⟨_, rfl⟩
    · obtain ⟨i, _, rfl⟩ := List.mem_map.mp hx
      exact .inr ⟨i, rfl⟩
  have e := ev h4 g4 (flat k) (flat j)
  injection e with e1 e2
  have e3 : k.2 = j.2 := (List.map_inj_right (fun a b h => V.int.inj h)).mp e2
  exact Prod.ext (V.str.inj e1) e3
open Classical in
noncomputable def tkOf (h : Heap) (v : Value) : TK := if x : ∃ k, IsTK h v k then x.choose else ("", [])
theorem tkOf_eq {h : Heap} {v : Value} {k : TK} (x : IsTK h v k) : tkOf h v = k := by
  have e : ∃ k, IsTK h v k := ⟨k, x⟩
  unfold tkOf
  rw [dif_pos e]
  exact e.choose_spec.uniq x
theorem IsTK.keeps {h h' : Heap} {v : Value} {k : TK} (x : IsTK h v k) (kp : ∀ b o, h.get? b = some o → o.cls = .type "tuple" → h'.get? b = some o) : IsTK h' v k := by
  obtain ⟨a, o, n, us, rfl, h1, h2, h3, h4⟩ := x
  exact ⟨a, o, n, us, rfl, kp _ _ h1 h2, h2, h3, h4⟩
section
variable {prog : Program} {w : World} {A : Around} {E : Value → Shared → Prop} {s : Shared}
theorem kat_ints {Q : Bool → Shared → Prop} : ∀ {as bs : List Int} {us vs : List Value} {i : Nat}, Vals (as.map V.int) us → Vals (bs.map V.int) vs → Q (lexI as bs) s → PySem.W.KatLex prog w A true (decide (us.length < vs.length)) Q (us.zip vs) (i + 1) s
  | [], [], _, _, _, .nil, .nil, q => PySem.W.kat_nil q
  | [], _ :: _, _, _, _, .nil, .cons p r, q => by
    refine PySem.W.kat_nil ?_
    simpa [lexI] using q
  | _ :: _, [], _, _, _, .cons p r, .nil, q => by
    refine PySem.W.kat_nil ?_
    simpa [lexI] using q
  | a :: as, b :: bs, _, _, i, .cons (l₂ := us) p r, .cons (l₂ := vs) p' r', q => by
    obtain ⟨t, rfl⟩ := p
    obtain ⟨t', rfl⟩ := p'
    have el : decide ((Value.int a t :: us).length < (Value.int b t' :: vs).length) = decide (us.length < vs.length) := by simp
    rw [el, List.zip_cons_cons]
    refine PySem.W.kat_cons (SeqAt.EqAt.int_int a t b t' prog w _ _ ?_)
    unfold lexI at q
    refine PySem.W.kat_go (fun e => ?_) (fun e => ?_)
    · have e : a = b := by simpa using e
      rw [if_pos e] at q
      exact PySem.W.kat_yes (kat_ints r r' q)
    · have e : ¬ a = b := by simpa using e
      rw [if_neg e] at q
      refine PySem.W.kat_no ?_
      show wpAny (model prog w) A (oneLt' (true && i + 1 == 0) _ _) _ _ _
      exact PySem.W.kat_one _ _ (PyProof.Rows.lt_int q)
theorem tk_cmp {vs : List Value} {k : Value → TK} (hp : ∀ v ∈ vs, IsTK s.heap v (k v)) : SrtO.Cmp prog w A s (tuples' true) (fun p => p.1 ∈ vs) (SrtO.lt2 fun v u => klt (k v) (k u)) := by
  intro p q hm hm'
  show wpAny (model prog w) A (keyLt' (tuples' true) p.1 q.1) (fun r s' => s' = s ∧ r = klt (k p.1) (k q.1)) (fun _ _ => False) s
  have h1 := hp _ hm
  have h2 := hp _ hm'
  generalize k p.1 = x at h1 ⊢
  generalize k q.1 = y at h2 ⊢
  obtain ⟨a, o, n, us, e, ho, hc, hd, r⟩ := h1
  obtain ⟨a', o', n', us', e', ho', hc', hd', r'⟩ := h2
  rw [e, e']
  cases r with
  | @cons _ u _ us p r =>
    cases r' with
    | @cons _ u' _ us' p' r' =>
      obtain ⟨t, rfl⟩ := p
      obtain ⟨t', rfl⟩ := p'
      refine PySem.W.kat_lt ho hd ho' hd' ?_
      have el : decide ((Value.str x.1 t :: us).toArray.size < (Value.str y.1 t' :: us').toArray.size) = decide (us.length < us'.length) := by simp
      rw [el]
      show PySem.W.KatLex prog w A true (decide (us.length < us'.length)) _ ((Value.str x.1 t, Value.str y.1 t') :: us.zip us') 0 s
      refine PySem.W.kat_cons (SeqAt.EqAt.str_str x.1 t y.1 t' prog w _ _ ?_)
      have hk : klt x y = (if x.1 = y.1 then lexI x.2 y.2 else decide (x.1.cps.toList < y.1.cps.toList)) := rfl
      refine PySem.W.kat_go (fun e => ?_) (fun e => ?_)
      · have e : x.1 = y.1 := by simpa using e
        rw [if_pos e] at hk
        exact PySem.W.kat_yes (kat_ints (i := 0) r r' ⟨rfl, hk.symm⟩)
      · have e : ¬ x.1 = y.1 := by simpa using e
        rw [if_neg e] at hk
        exact PySem.W.kat_no (oneLt_str ⟨rfl, hk.symm⟩)
theorem tk_firsts {h : Heap} {k : Value → TK} : ∀ {vs : List Value}, (∀ v ∈ vs, IsTK h v (k v)) → ∃ fs : List Value, PySem.W.KatTups h vs fs ∧ fs.length = vs.length ∧ ∀ f ∈ fs, ∃ x t, f = Value.str x t
  | [], _ => ⟨[], PySem.W.KatTups.nil, rfl, fun _ hm => by simp at hm⟩
  | v :: vs, hp => by
    obtain ⟨fs, h1, h2, h3⟩ := tk_firsts (vs := vs) fun v' hm => hp v' (List.mem_cons_of_mem _ hm)
    obtain ⟨a, o, n, us, e, ho, hc, hd, r⟩ := hp v List.mem_cons_self
    rw [e]
    cases r with
    | @cons _ u _ us p r =>
      obtain ⟨t, rfl⟩ := p
      refine ⟨_ :: fs, PySem.W.KatTups.cons ho hc hd rfl h1, by rw [List.length_cons, List.length_cons, h2], fun f hm => ?_⟩
      rcases List.mem_cons.mp hm with rfl | hm
      · exact ⟨_, _, rfl⟩
      · exact h3 f hm
theorem tk_sortable {a : Addr} {vs : List Value} {k : Value → TK} (h0 : 0 < vs.length) (hp : ∀ v ∈ vs, IsTK s.heap v (k v)) (ha : ∀ o, s.heap.get? a = some o → o.cls ≠ .type "tuple") : SrtO.SortableO prog w A s a vs fun v u => klt (k v) (k u) := by
  intro h' keep
  have hp' : ∀ v ∈ vs, IsTK h' v (k v) := fun v hm => (hp v hm).keeps fun b o e c => keep b o (fun z => by subst z; exact ha o e c) e
  obtain ⟨fs, h1, h2, h3⟩ := tk_firsts hp'
  refine ⟨tuples' true, fun Q E hq => ?_, tk_cmp hp'⟩
  refine PySem.W.kat_kind (T := .type "str") h1 (by omega) (fun f hm => ?_) (by rfl) ?_
  · obtain ⟨x, t, rfl⟩ := h3 f hm
    exact PySem.W.Looks.now
  · have e : (Value.type "str" != Value.type "tuple") = true := by decide +kernel
    rw [e]
    exact hq
end
/-- the items are such tuples -/
def TKL (H : Hp) (xs : List V) (ks : List TK) : Prop := Paired (fun (v : V) (k : TK) => ∃ b, v = .ref b ∧ H b = some (.tup (V.str k.1 :: k.2.map V.int))) xs ks
def refV : Value → V
  | .ref b => .ref b
  | _ => .non
section
variable {X : Cx} {G : Dx}
theorem cr_sortedT : CallR X (.builtin "sorted") (fun vs H Q => ∃ (a : Addr) (xs : List V) (ks : List TK), vs = [.ref a] ∧ SqL X.K H a xs ∧ TKL H xs ks ∧ ∀ p ys, H p = none → TKL H ys (sortK ks) → Q (.ref p) (upd H p (.lst ys))) := by
  intro pins s σ H xs us Q I r h
  obtain ⟨a, xs, ks, rfl, hs, hk, q⟩ := h
  obtain ⟨its, rv, hl, hz⟩ := I.list hs
  rw [Vals.ref1 r]
  -- each item
  have one : ∀ {xs : List V} {ks : List TK} {its : List Value}, TKL H xs ks → Vals xs its → (∀ v ∈ its, ∃ b k, v = .ref b ∧ H b = some (.tup (V.str k.1 :: k.2.map V.int)) ∧ IsTK s.heap v k) ∧ its.map (tkOf s.heap) = ks := by
    intro xs ks its hk
    induction hk generalizing its with
    | nil => intro rv; cases rv; exact ⟨fun v hv => (by cases hv), rfl⟩
    | @cons x k xs ks p t ih =>
      intro rv
      cases rv with
      | @cons _ u _ us ru rr =>
        obtain ⟨i1, i2⟩ := ih rr
        obtain ⟨b, rfl, hb⟩ := p
        cases ru
        obtain ⟨_, uu, r2, o, h1, h2, n, h3⟩ := (show ObjOk X.prog X.w H s.heap b (.tup (V.str k.1 :: k.2.map V.int)) from I.hok b _ hb)
        have tk : IsTK s.heap (.ref b) k := ⟨b, o, n, uu, rfl, h1, h2, h3, r2⟩
        refine ⟨fun v hv => ?_, by rw [List.map_cons, i2, tkOf_eq tk]⟩
        rcases List.mem_cons.mp hv with rfl | hv
        · exact ⟨b, k, rfl, hb, tk⟩
        · exact i1 v hv
  obtain ⟨o1, o2⟩ := one hk rv
  have hp : ∀ v ∈ its, IsTK s.heap v (tkOf s.heap v) := fun v hv => by
    obtain ⟨b, k, _, _, tk⟩ := o1 v hv
    rw [tkOf_eq tk]
    exact tk
  refine SrtO.sorted_ord (slo_klt.swo (tkOf s.heap)) hl.isList (by rw [← rv.length]; exact hz) (fun h2 h₁ a' ha kk => ?_) fun out h1 h2 => ?_
  · refine tk_sortable (s := { s with heap := h₁ }) (by omega) (fun v hm => (hp v hm).keeps fun b o e _ => (kk b o e).2) fun o e => ?_
    have e' : some o = some (seqObj "list" its.toArray 0) := e.symm.trans ha
    cases e'
    intro c
    exact absurd (Value.type.inj c) (by decide)
  · have pm : out.Perm its := h2.perm
    have ek : out.map (tkOf s.heap) = sortK ks := by
      refine sortK_uniq ?_ ?_
      · rw [← o2]
        exact pm.map _
      · exact List.pairwise_map.mpr h1
    have back : ∀ {l : List Value}, (∀ v ∈ l, v ∈ its) → Vals (l.map refV) l ∧ TKL H (l.map refV) (l.map (tkOf s.heap)) := by
      intro l
      induction l with
      | nil => intro _; exact ⟨.nil, .nil⟩
      | cons v l ih =>
        intro hm
        obtain ⟨i1, i2⟩ := ih fun v hv => hm v (List.mem_cons_of_mem _ hv)
        obtain ⟨b, k, rfl, hb, tk⟩ := o1 v (hm v List.mem_cons_self)
        refine ⟨.cons rfl i1, ?_⟩
        rw [List.map_cons, List.map_cons, tkOf_eq tk]
        exact .cons ⟨b, rfl, hb⟩ i2
    obtain ⟨b1, b2⟩ := back (l := out) fun v hv => pm.mem_iff.mp hv
    rw [ek] at b2
    obtain ⟨ep, he'⟩ := PyProof.Rows.sortedAll_at s.heap its out.toArray
    have hlen : (out.map refV).length ≤ sizeLine := by
      rw [List.length_map, pm.length_eq, ← rv.length]
      exact hz
    exact ⟨.ref _, upd H (s.heap.objs.size + 1) (.lst (out.map refV)), I.laid (t' := s.toks) (fun _ _ => PyProof.Rows.sortedAll_old) (Nat.le_succ _) ⟨hlen, out, ep, b1, he'⟩, rfl, q _ _ (I.hok.fresh (Nat.le_succ _)) b2⟩
/-- in data -/
def keyT : D → Option TK
  | .tup (.str x :: ds) => (intsD ds).map fun is => (x, is)
  | _ => none
def keysT : List D → Option (List TK)
  | [] => some []
  | d :: ds => match keyT d, keysT ds with
    | some k, some ks => some (k :: ks)
    | _, _ => none
def tkD (k : TK) : D := .tup (.str k.1 :: k.2.map .int)
def opSorted (m : Mem) (d : D) : R D := match (lstOf m d).bind keysT with
  | some ks => .ok (.lst ((sortK ks).map tkD)) m
  | none => .st
theorem keysT_ok {w : Wd} : ∀ {ds : List D} {vs : List V} {ks : List TK}, RepL w ds vs → keysT ds = some ks → TKL w.H vs ks
  | _, _, _, .nil, h => by
    cases h
    exact .nil
  | d :: ds, v :: vs, ks, .cons r t, h => by
    unfold keysT at h
    split at h
    · rename_i k ks' hk hks
      cases h
      refine .cons ?_ (keysT_ok t hks)
      unfold keyT at hk
      split at hk
      · rename_i x ds'
        cases hi : intsD ds' with
        | none => rw [hi] at hk; cases hk
        | some is =>
          rw [hi] at hk
          cases hk
          cases r with
          | tup e q =>
            cases q with
            | cons p q =>
              cases p
              rw [intsD_map hi] at q
              rw [q.ints] at e
              exact ⟨_, rfl, e⟩
      · cases hk
    · cases h
theorem tkl_rep {w : Wd} : ∀ {ks : List TK} {vs : List V}, TKL w.H vs ks → RepL w (ks.map tkD) vs
  | _, _, .nil => .nil
  | k :: ks, _, .cons ⟨b, e, hb⟩ t => by
    rw [e]
    exact .cons (.tup hb (.cons .str (RepL.of_ints _))) (tkl_rep t)
theorem suits_sorted : SuitsC X G (.builtin "sorted") (op1 opSorted) := suits1 fun m d => by
  refine .inr ⟨_, cr_sortedT, fun w σ env v Q hm A rv h => ?_⟩
  subst hm
  unfold opSorted at h
  cases hl : lstOf w.mem d with
  | none => rw [hl] at h; exact h.st'.elim
  | some xs =>
    rw [hl] at h
    cases hk : keysT xs with
    | none =>
      have e : (some xs).bind keysT = none := hk
      rw [e] at h
      exact h.st'.elim
    | some ks =>
      have e : (some xs).bind keysT = some ks := hk
      rw [e] at h
      obtain ⟨p, vs, rfl, eH, r⟩ := rv.aslst A.rel.ok hl
      refine ⟨p, vs, ks, rfl, SqL.of eH, keysT_ok r hk, fun q ys hq hy => ?_⟩
      exact h (w.put q _) (Ext.put A.rel.ok hq) rfl (A.rel.ok.put hq) _ (put_lst A.rel.ok hq (tkl_rep hy))
end
end DL
/-! DL17: the end. -/
namespace DL
open PySem PySem.Spec PyProof.Rows L2
/-- an exception behind a call, in whichever world -/
def CXw (P : Program) : CXT := fun outer H s E e s' => ∃ w, L2.CX P w outer H s E e s'
theorem cxw {P : Program} {w : World} {K : PySem.W.Frag} {mg : Str → Option Value} {base : Heap} {k : Nat} {f : Addr} {fd : FuncData} {ps : List Str} {sp : Sp} (F : FnOk P w K mg base (L2.CX P w) k f fd ps sp) : FnOk P w K mg base (CXw P) k f fd ps sp :=
  ⟨F.len, fun A outer s H args us vs Q E hr e0 hb r h => codeAny_mono (F.run A outer s H args us vs Q E hr e0 hb r h) fun r s' q => by
    cases r with
    | error e => exact ⟨w, q⟩
    | ok fl =>
      cases fl with
      | ret u => exact q
      | next => exact q
      | brk => exact q
      | cont => exact q⟩
theorem cxw_no {P : Program} (H : Hp) (s : Shared) (e : Value) (s' : Shared) (h : CXw P [] H s (fun _ _ _ => False) e s') : False := by
  obtain ⟨_, _, _, _, _, _, _, _, _, _, _, _, _, z⟩ := h
  exact z
/-- the script as data -/
theorem law_sp {K : PySem.W.Frag} {cl : Str → Addr} {g : Mean} {H : Hp} {a : Addr} {ns : List Int} (h : ∃ m, g [] [.fl ns] = .ok (.bl true) m) (hO : Only H) (hS : SqL K H a (ns.map V.int)) : spD K cl 1 g [.ref a] H (fun v _ => v = .bl true) fun _ _ _ => False := by
  obtain ⟨m, h⟩ := h
  have hf : FlAt K H a (ns.map V.int) := by
    rcases hS with (z | ⟨o, z⟩) | z
    · rcases hO a with y | ⟨o, xs, y⟩
      · rw [y] at z; cases z
      · rw [y] at z; cases z
    · exact .inl ⟨o, z⟩
    · exact .inr z
  refine ⟨rfl, ⟨K, cl, H, fun _ => 0, [], fun _ => False⟩, [.fl ns], rfl, rfl, rfl, ⟨fun k c h => by simp at h, fun j k c e h => by simp at h, fun k c h => by simp at h, fun a h => h.elim⟩, .cons (.fl hf) .nil, ?_⟩
  show Out _ _ _ _ (g [] [.fl ns])
  rw [h]
  intro w' e hm ok v rv
  cases rv
  rfl
end DL
/-! DL18: plain words about the functions on data. -/
namespace DL
open PySem PySem.Spec PyProof.Rows L2

/-! ### results in a row -/
theorem bind_ok {α β : Type} {a : α} {m : Mem} {f : α → Mem → R β} : R.bind (.ok a m) f = f a m := rfl
theorem bindS_ok {α : Type} {a : α} {m : Mem} {env : Env} {f : α → Mem → S} : R.bindS (.ok a m) env f = f a m := rfl
theorem bindS_ex {α : Type} {c : Str} {fs : List Str} {ds : List D} {m : Mem} {env : Env} {f : α → Mem → S} : R.bindS (.ex c fs ds m : R α) env f = .ex c fs ds env m := rfl
theorem bind_ex {α β : Type} {c : Str} {fs : List Str} {ds : List D} {m : Mem} {f : α → Mem → R β} : R.bind (.ex c fs ds m) f = .ex c fs ds m := rfl
theorem sbind_nx {e : Env} {m : Mem} {f : Env → Mem → S} : S.bind (.nx e m) f = f e m := rfl
theorem sbind_rt {d : D} {m : Mem} {f : Env → Mem → S} : S.bind (.rt d m) f = .rt d m := rfl
theorem sbind_ex {c : Str} {fs : List Str} {ds : List D} {e : Env} {m : Mem} {f : Env → Mem → S} : S.bind (.ex c fs ds e m) f = .ex c fs ds e m := rfl

/-! ### what is left behind -/
theorem leave_same {m : Mem} {d : D} (hm : lowM m.length m = true) (hd : d.low m.length = true) : leaveD false m.length d m = .ok d m := by
  simp only [leaveD, Bool.false_eq_true, if_false, List.take_length, hd, hm, Bool.and_self, if_true]
theorem leave_app {m m' : Mem} {d : D} (hm : lowM m.length m = true) (hd : d.low m.length = true) : leaveD false m.length d (m ++ m') = .ok d m := by
  simp only [leaveD, Bool.false_eq_true, if_false, List.take_left', hd, hm, Bool.and_self, if_true]
theorem leave_take {m m' : Mem} {n : Nat} {d : D} (ht : m'.take n = m) (hm : lowM n m = true) (hd : d.low n = true) : leaveD false n d m' = .ok d m := by
  simp only [leaveD, Bool.false_eq_true, if_false, ht, hd, hm, Bool.and_self, if_true]
theorem leaveX_same {m : Mem} {c : Str} {fs : List Str} {ds : List D} (hm : lowM m.length m = true) (hd : lowL m.length ds = true) : leaveX false m.length c fs ds m = .ex c fs ds m := by
  simp only [leaveX, Bool.false_eq_true, if_false, List.take_length, hd, hm, Bool.and_self, if_true]
theorem leaveX_app {m m' : Mem} {c : Str} {fs : List Str} {ds : List D} (hm : lowM m.length m = true) (hd : lowL m.length ds = true) : leaveX false m.length c fs ds (m ++ m') = .ex c fs ds m := by
  simp only [leaveX, Bool.false_eq_true, if_false, List.take_left', hd, hm, Bool.and_self, if_true]
/-! a def's call by its body -/
theorem fn_nx {np nl : Nat} {fb : FS} {m : Mem} {ds : List D} {e : Env} {m' : Mem} (hl : ds.length = np) (h : fb (startE nl ds) m = .nx e m') {r : R D} (hr : leaveD false m.length .non m' = r) : fnM false np nl fb m ds = r := by
  unfold fnM
  rw [if_pos hl, h]
  exact hr
theorem fn_rt {np nl : Nat} {fb : FS} {m : Mem} {ds : List D} {d : D} {m' : Mem} (hl : ds.length = np) (h : fb (startE nl ds) m = .rt d m') {r : R D} (hr : leaveD false m.length d m' = r) : fnM false np nl fb m ds = r := by
  unfold fnM
  rw [if_pos hl, h]
  exact hr
theorem fn_ex {np nl : Nat} {fb : FS} {m : Mem} {ds : List D} {c : Str} {fs : List Str} {xs : List D} {e : Env} {m' : Mem} (hl : ds.length = np) (h : fb (startE nl ds) m = .ex c fs xs e m') {r : R D} (hr : leaveX false m.length c fs xs m' = r) : fnM false np nl fb m ds = r := by
  unfold fnM
  rw [if_pos hl, h]
  exact hr
/-! ### low -/
theorem lowL_all {n : Nat} : ∀ {xs : List D}, (∀ x ∈ xs, x.low n = true) → lowL n xs = true
  | [], _ => rfl
  | x :: xs, h => by
    unfold lowL
    rw [h x List.mem_cons_self, lowL_all fun y hy => h y (List.mem_cons_of_mem _ hy)]
    rfl
theorem lowL_mem {n : Nat} : ∀ {xs : List D}, lowL n xs = true → ∀ x ∈ xs, x.low n = true
  | [], _, x, h => by cases h
  | y :: xs, h, x, hx => by
    unfold lowL at h
    rw [Bool.and_eq_true] at h
    rcases List.mem_cons.mp hx with rfl | hx
    · exact h.1
    · exact lowL_mem h.2 x hx
theorem lowL_map {α : Type} {n : Nat} {f : α → D} {xs : List α} (h : ∀ x ∈ xs, (f x).low n = true) : lowL n (xs.map f) = true :=
  lowL_all fun y hy => by
    obtain ⟨x, hx, rfl⟩ := List.mem_map.mp hy
    exact h x hx
theorem lowM_set {n : Nat} : ∀ {m : Mem} {k : Nat} {c : C}, lowM n m = true → c.low n = true → lowM n (m.set k (some c)) = true
  | [], _, _, _, _ => rfl
  | none :: m, 0, c, h, hc => by
    have h : lowM n m = true := h
    show (c.low n && lowM n m) = true
    rw [hc, h]
    rfl
  | some d :: m, 0, c, h, hc => by
    have h : (d.low n && lowM n m) = true := h
    rw [Bool.and_eq_true] at h
    show (c.low n && lowM n m) = true
    rw [hc, h.2]
    rfl
  | none :: m, k + 1, c, h, hc => lowM_set (m := m) (k := k) h hc
  | some d :: m, k + 1, c, h, hc => by
    have h : (d.low n && lowM n m) = true := h
    rw [Bool.and_eq_true] at h
    show (d.low n && lowM n (m.set k (some c))) = true
    rw [h.1, lowM_set h.2 hc]
    rfl
/-! a tree holds no cell: it is low anywhere -/
mutual
theorem low_mono {a b : Nat} (h : a ≤ b) : ∀ d : D, d.low a = true → d.low b = true
  | .cel k, q => by
    have q : decide (k < a) = true := q
    have q := of_decide_eq_true q
    exact decide_eq_true (Nat.lt_of_lt_of_le q h)
  | .lst xs, q => lowL_mono h xs q
  | .tup xs, q => lowL_mono h xs q
  | .kt xs, q => lowL_mono h xs q
  | .dk _ ds, q => lowL_mono h ds q
  | .dt _ ds, q => lowL_mono h ds q
  | .obj _ _ ds, q => lowL_mono h ds q
  | .non, _ => rfl
  | .bl _, _ => rfl
  | .int _, _ => rfl
  | .str _, _ => rfl
  | .fl _, _ => rfl
theorem lowL_mono {a b : Nat} (h : a ≤ b) : ∀ ds : List D, lowL a ds = true → lowL b ds = true
  | [], _ => rfl
  | d :: ds, q => by
    have q : (d.low a && lowL a ds) = true := q
    rw [Bool.and_eq_true] at q
    show (d.low b && lowL b ds) = true
    rw [low_mono h d q.1, lowL_mono h ds q.2]
    rfl
end
theorem lowM_mono {a b : Nat} (h : a ≤ b) : ∀ m : Mem, lowM a m = true → lowM b m = true
  | [], _ => rfl
  | none :: m, q => lowM_mono h m q
  | some c :: m, q => by
    have q : (c.low a && lowM a m) = true := q
    rw [Bool.and_eq_true] at q
    show (c.low b && lowM b m) = true
    have hc : c.low b = true := by
      cases c with
      | lst xs => exact lowL_mono h xs q.1
      | dk ks ds => exact lowL_mono h ds q.1
      | dt ks ds => exact lowL_mono h ds q.1
      | ins c fs ds => exact lowL_mono h ds q.1
    rw [hc, lowM_mono h m q.2]
    rfl
theorem lowM_app {n : Nat} : ∀ {m m' : Mem}, lowM n m = true → lowM n m' = true → lowM n (m ++ m') = true
  | [], _, _, h => h
  | none :: m, m', h, h' => lowM_app (m := m) h h'
  | some c :: m, m', h, h' => by
    have h : (c.low n && lowM n m) = true := h
    rw [Bool.and_eq_true] at h
    show (c.low n && lowM n (m ++ m')) = true
    rw [h.1, lowM_app h.2 h']
    rfl

/-! ### comprehensions over items -/
/-- each turn by an invariant: I i acc m ahead of turn i -/
theorem lc_inv {its : List D} {tg : TgD} {ft : FT} {fe : FE} {env0 : Env} (I : Nat → List D → Mem → Prop)
    (step : ∀ i d acc m, its[i]? = some d → I i acc m → ∃ e1, tg d env0 m = some e1 ∧ ((∃ m1, ft e1 m = .ok false m1 ∧ I (i + 1) acc m1) ∨ ∃ m1 y m2, ft e1 m = .ok true m1 ∧ fe e1 m1 = .ok y m2 ∧ acc.length < sizeLine ∧ I (i + 1) (acc ++ [y]) m2)) :
    ∀ (n i : Nat) (acc : List D) (m : Mem), its.length - i + 1 ≤ n → i ≤ its.length → I i acc m → ∃ out m', lcGo (.its its) tg ft fe env0 n i acc m = .ok out m' ∧ I its.length out m'
  | 0, i, acc, m, h, _, _ => by omega
  | n + 1, i, acc, m, h, hi, hI => by
    unfold lcGo
    rw [show Src.items m (Src.its its) = some its from rfl]
    dsimp only
    cases hd : its[i]? with
    | none =>
      have e : its.length = i := by
        have := List.getElem?_eq_none_iff.mp hd
        omega
      dsimp only
      rw [if_pos e]
      exact ⟨acc, m, rfl, e ▸ hI⟩
    | some d =>
      have hlt := (List.getElem?_eq_some_iff.mp hd).1
      obtain ⟨e1, h1, h2⟩ := step i d acc m hd hI
      dsimp only
      rw [h1]
      dsimp only
      rcases h2 with ⟨m1, h3, h4⟩ | ⟨m1, y, m2, h3, h4, h5, h6⟩
      · rw [h3]
        dsimp only
        rw [if_neg Bool.false_ne_true]
        exact lc_inv I step n (i + 1) acc m1 (by omega) (by omega) h4
      · rw [h3]
        dsimp only
        rw [if_pos rfl, h4]
        dsimp only
        rw [if_pos h5]
        exact lc_inv I step n (i + 1) (acc ++ [y]) m2 (by omega) (by omega) h6
/-- nothing changes: a map -/
theorem lc_map {its : List D} {tg : TgD} {ft : FT} {fe : FE} {env0 : Env} {m : Mem} (f : Nat → D → D) (hz : its.length ≤ sizeLine)
    (h : ∀ i d, its[i]? = some d → ∃ e1, tg d env0 m = some e1 ∧ ft e1 m = .ok true m ∧ fe e1 m = .ok (f i d) m) :
    lcGo (.its its) tg ft fe env0 (its.length + 1) 0 [] m = .ok (its.mapIdx f) m := by
  obtain ⟨out, m', h1, h2, h3⟩ := lc_inv (its := its) (tg := tg) (ft := ft) (fe := fe) (env0 := env0) (fun i acc m1 => m1 = m ∧ acc = (its.take i).mapIdx f) (fun i d acc m1 hd hI => by
    obtain ⟨rfl, rfl⟩ := hI
    obtain ⟨e1, a, b, c⟩ := h i d hd
    have hlt := (List.getElem?_eq_some_iff.mp hd).1
    refine ⟨e1, a, .inr ⟨m1, f i d, m1, b, c, by simp; omega, rfl, ?_⟩⟩
    have e : its.take (i + 1) = its.take i ++ [d] := by
      rw [List.take_succ, hd]
      rfl
    have el : (its.take i).length = i := by rw [List.length_take]; omega
    rw [e, List.mapIdx_append]
    simp [el]) (its.length + 1) 0 [] m (by omega) (by omega) ⟨rfl, by simp⟩
  rw [h1, h2, h3, List.take_length]
/-- .. without the index -/
theorem lc_map' {its : List D} {tg : TgD} {ft : FT} {fe : FE} {env0 : Env} {m : Mem} (f : D → D) (hz : its.length ≤ sizeLine)
    (h : ∀ d ∈ its, ∃ e1, tg d env0 m = some e1 ∧ ft e1 m = .ok true m ∧ fe e1 m = .ok (f d) m) :
    lcGo (.its its) tg ft fe env0 (its.length + 1) 0 [] m = .ok (its.map f) m := by
  rw [lc_map (fun _ => f) hz fun i d hd => h d (List.mem_of_getElem? hd)]
  congr 1
  apply List.ext_getElem?
  intro i
  simp
/-- a filter -/
theorem lc_filter {its : List D} {tg : TgD} {ft : FT} {fe : FE} {env0 : Env} {m : Mem} (p : D → Bool) (f : D → D) (hz : its.length ≤ sizeLine)
    (h : ∀ d ∈ its, ∃ e1, tg d env0 m = some e1 ∧ ft e1 m = .ok (p d) m ∧ (p d = true → fe e1 m = .ok (f d) m)) :
    lcGo (.its its) tg ft fe env0 (its.length + 1) 0 [] m = .ok ((its.filter p).map f) m := by
  obtain ⟨out, m', h1, h2, h3⟩ := lc_inv (its := its) (tg := tg) (ft := ft) (fe := fe) (env0 := env0) (fun i acc m1 => m1 = m ∧ acc = ((its.take i).filter p).map f) (fun i d acc m1 hd hI => by
    obtain ⟨rfl, rfl⟩ := hI
    obtain ⟨e1, a, b, c⟩ := h d (List.mem_of_getElem? hd)
    have hlt := (List.getElem?_eq_some_iff.mp hd).1
    have e : its.take (i + 1) = its.take i ++ [d] := by
      rw [List.take_succ, hd]
      rfl
    refine ⟨e1, a, ?_⟩
    cases hp : p d with
    | false =>
      rw [hp] at b
      refine .inl ⟨m1, b, rfl, ?_⟩
      rw [e, List.filter_append]
      simp [hp]
    | true =>
      rw [hp] at b
      refine .inr ⟨m1, f d, m1, b, c hp, ?_, rfl, ?_⟩
      · have z := List.length_filter_le p (its.take i)
        rw [List.length_map]
        have el : (its.take i).length = i := by rw [List.length_take]; omega
        omega
      · rw [e, List.filter_append]
        simp [hp]) (its.length + 1) 0 [] m (by omega) (by omega) ⟨rfl, by simp⟩
  rw [h1, h2, h3, List.take_length]
/-! ### loops over items -/
theorem for_inv {its : List D} {tg : TgD} {fb : FS} (I : Nat → Env → Mem → Prop)
    (step : ∀ i d env m, its[i]? = some d → I i env m → ∃ e1, tg d env m = some e1 ∧ ∃ e2 m2, (fb e1 m = .nx e2 m2 ∨ fb e1 m = .ct e2 m2) ∧ I (i + 1) e2 m2) :
    ∀ (n i : Nat) (env : Env) (m : Mem), its.length - i + 1 ≤ n → i ≤ its.length → I i env m → ∃ e' m', forGo (.its its) tg fb n i env m = .nx e' m' ∧ I its.length e' m'
  | 0, i, env, m, h, _, _ => by omega
  | n + 1, i, env, m, h, hi, hI => by
    unfold forGo
    rw [show Src.items m (Src.its its) = some its from rfl]
    dsimp only
    cases hd : its[i]? with
    | none =>
      have e : its.length = i := by
        have := List.getElem?_eq_none_iff.mp hd
        omega
      dsimp only
      rw [if_pos e]
      exact ⟨env, m, rfl, e ▸ hI⟩
    | some d =>
      have hlt := (List.getElem?_eq_some_iff.mp hd).1
      obtain ⟨e1, h1, e2, m2, h2, h3⟩ := step i d env m hd hI
      dsimp only
      rw [h1]
      dsimp only
      rcases h2 with h2 | h2
      · rw [h2]
        exact for_inv I step n (i + 1) e2 m2 (by omega) (by omega) h3
      · rw [h2]
        exact for_inv I step n (i + 1) e2 m2 (by omega) (by omega) h3
theorem fuel_its {m : Mem} {ds : List D} : Src.fuel m (.its ds) = ds.length + 1 := rfl
theorem rangeD_len {i : Int} {n : Nat} : (rangeD i n).length = n := by simp [rangeD]
theorem rangeD_get {i : Int} {n k : Nat} (h : k < n) : (rangeD i n)[k]? = some (.int (i + (k : Nat))) := by
  unfold rangeD
  rw [List.getElem?_map, List.getElem?_range h]
  rfl
end DL
/-! printed by gen.py: the defs of the law, each one's meaning and the term that shows it -/
namespace LW
open PySem PySem.Spec PyProof.Rows L2 DL
def top (i : Nat) : Stmt := PySem.Challenge.pw_rightordark_k10_plain_nets_and_tops.main.body.getD i (.Pass ⟨0, 0, 0, 0⟩)
abbrev s0 : Stmt := inClass (top 2) 0
def d0 : He.DefD := ⟨("InvalidWord", some "__init__"), "__init__", "InvalidWord.__init__", defArgs s0, defBody s0, defScope s0, [], []⟩
abbrev s1 : Stmt := inClass (top 3) 0
def d1 : He.DefD := ⟨("InvalidWords", some "__init__"), "__init__", "InvalidWords.__init__", defArgs s1, defBody s1, defScope s1, [], []⟩
abbrev s2 : Stmt := inClass (top 4) 0
def d2 : He.DefD := ⟨("InvalidCount", some "__init__"), "__init__", "InvalidCount.__init__", defArgs s2, defBody s2, defScope s2, [], []⟩
abbrev s3 : Stmt := inClass (top 5) 0
def d3 : He.DefD := ⟨("InvalidNet", some "__init__"), "__init__", "InvalidNet.__init__", defArgs s3, defBody s3, defScope s3, [], []⟩
abbrev s4 : Stmt := inClass (top 6) 0
def d4 : He.DefD := ⟨("InvalidGates", some "__init__"), "__init__", "InvalidGates.__init__", defArgs s4, defBody s4, defScope s4, [], []⟩
abbrev s5 : Stmt := inClass (top 7) 0
def d5 : He.DefD := ⟨("InvalidWires", some "__init__"), "__init__", "InvalidWires.__init__", defArgs s5, defBody s5, defScope s5, [], []⟩
abbrev s6 : Stmt := inClass (top 8) 0
def d6 : He.DefD := ⟨("InvalidHurts", some "__init__"), "__init__", "InvalidHurts.__init__", defArgs s6, defBody s6, defScope s6, [], []⟩
abbrev s7 : Stmt := inClass (top 9) 0
def d7 : He.DefD := ⟨("InvalidSign", some "__init__"), "__init__", "InvalidSign.__init__", defArgs s7, defBody s7, defScope s7, [], []⟩
abbrev s8 : Stmt := top 11
def d8 : He.DefD := ⟨("is_integer", none), "is_integer", "is_integer", defArgs s8, defBody s8, defScope s8, [], []⟩
abbrev s9 : Stmt := top 12
def d9 : He.DefD := ⟨("is_between", none), "is_between", "is_between", defArgs s9, defBody s9, defScope s9, [], []⟩
abbrev s10 : Stmt := top 13
def d10 : He.DefD := ⟨("is_index", none), "is_index", "is_index", defArgs s10, defBody s10, defScope s10, [], []⟩
abbrev s11 : Stmt := top 14
def d11 : He.DefD := ⟨("is_list", none), "is_list", "is_list", defArgs s11, defBody s11, defScope s11, [], []⟩
abbrev s12 : Stmt := top 15
def d12 : He.DefD := ⟨("is_tuple", none), "is_tuple", "is_tuple", defArgs s12, defBody s12, defScope s12, [], []⟩
abbrev s13 : Stmt := top 18
def d13 : He.DefD := ⟨("is_word", none), "is_word", "is_word", defArgs s13, defBody s13, defScope s13, [], []⟩
abbrev s14 : Stmt := top 19
def d14 : He.DefD := ⟨("is_word_of", none), "is_word_of", "is_word_of", defArgs s14, defBody s14, defScope s14, [], []⟩
abbrev s15 : Stmt := top 31
def d15 : He.DefD := ⟨("are_wires", none), "are_wires", "are_wires", defArgs s15, defBody s15, defScope s15, [], []⟩
abbrev s16 : Stmt := top 32
def d16 : He.DefD := ⟨("is_gate", none), "is_gate", "is_gate", defArgs s16, defBody s16, defScope s16, [], []⟩
abbrev s17 : Stmt := top 33
def d17 : He.DefD := ⟨("are_gates", none), "are_gates", "are_gates", defArgs s17, defBody s17, defScope s17, [], []⟩
abbrev s18 : Stmt := inClass (top 34) 0
def d18 : He.DefD := ⟨("Net", some "__init__"), "__init__", "Net.__init__", defArgs s18, defBody s18, defScope s18, [], []⟩
abbrev s19 : Stmt := inClass (top 34) 1
def d19 : He.DefD := ⟨("Net", some "__eq__"), "__eq__", "Net.__eq__", defArgs s19, defBody s19, defScope s19, [], []⟩
abbrev s20 : Stmt := top 35
def d20 : He.DefD := ⟨("need_net", none), "need_net", "need_net", defArgs s20, defBody s20, defScope s20, [], []⟩
abbrev s21 : Stmt := top 36
def d21 : He.DefD := ⟨("has_place", none), "has_place", "has_place", defArgs s21, defBody s21, defScope s21, [], []⟩
abbrev s22 : Stmt := top 39
def d22 : He.DefD := ⟨("gate_sign", none), "gate_sign", "gate_sign", defArgs s22, defBody s22, defScope s22, [], []⟩
abbrev s23 : Stmt := top 40
def d23 : He.DefD := ⟨("step", none), "step", "step", defArgs s23, defBody s23, defScope s23, [], []⟩
abbrev s24 : Stmt := top 41
def d24 : He.DefD := ⟨("run_on", none), "run_on", "run_on", defArgs s24, defBody s24, defScope s24, [], []⟩
abbrev s25 : Stmt := top 42
def d25 : He.DefD := ⟨("is_sign", none), "is_sign", "is_sign", defArgs s25, defBody s25, defScope s25, [], []⟩
abbrev s26 : Stmt := top 43
def d26 : He.DefD := ⟨("signs_in", none), "signs_in", "signs_in", defArgs s26, defBody s26, defScope s26, [], []⟩
abbrev s27 : Stmt := top 44
def d27 : He.DefD := ⟨("hurts_in", none), "hurts_in", "hurts_in", defArgs s27, defBody s27, defScope s27, [], []⟩
abbrev s28 : Stmt := top 45
def d28 : He.DefD := ⟨("need_words", none), "need_words", "need_words", defArgs s28, defBody s28, defScope s28, [], []⟩
abbrev s29 : Stmt := top 46
def d29 : He.DefD := ⟨("need_hurts", none), "need_hurts", "need_hurts", defArgs s29, defBody s29, defScope s29, [], []⟩
abbrev s30 : Stmt := top 47
def d30 : He.DefD := ⟨("run", none), "run", "run", defArgs s30, defBody s30, defScope s30, [], []⟩
abbrev s31 : Stmt := top 48
def d31 : He.DefD := ⟨("latch_behind", none), "latch_behind", "latch_behind", defArgs s31, defBody s31, defScope s31, [], []⟩
abbrev s32 : Stmt := top 52
def d32 : He.DefD := ⟨("need_sign", none), "need_sign", "need_sign", defArgs s32, defBody s32, defScope s32, [], []⟩
abbrev s33 : Stmt := top 53
def d33 : He.DefD := ⟨("is_plain", none), "is_plain", "is_plain", defArgs s33, defBody s33, defScope s33, [], []⟩
abbrev s34 : Stmt := top 54
def d34 : He.DefD := ⟨("without_nots", none), "without_nots", "without_nots", defArgs s34, defBody s34, defScope s34, [], []⟩
abbrev s35 : Stmt := top 55
def d35 : He.DefD := ⟨("top", none), "top", "top", defArgs s35, defBody s35, defScope s35, [], []⟩
abbrev s36 : Stmt := top 56
def d36 : He.DefD := ⟨("bottom", none), "bottom", "bottom", defArgs s36, defBody s36, defScope s36, [], []⟩
abbrev s37 : Stmt := top 57
def d37 : He.DefD := ⟨("last_words", none), "last_words", "last_words", defArgs s37, defBody s37, defScope s37, [], []⟩
abbrev s38 : Stmt := top 58
def d38 : He.DefD := ⟨("extreme", none), "extreme", "extreme", defArgs s38, defBody s38, defScope s38, [], []⟩
abbrev s39 : Stmt := top 60
def d39 : He.DefD := ⟨("_law_cell", none), "_law_cell", "_law_cell", defArgs s39, defBody s39, defScope s39, [], []⟩
abbrev s40 : Stmt := top 61
def d40 : He.DefD := ⟨("_law_box", none), "_law_box", "_law_box", defArgs s40, defBody s40, defScope s40, [], []⟩
abbrev s41 : Stmt := top 62
def d41 : He.DefD := ⟨("_law_take", none), "_law_take", "_law_take", defArgs s41, defBody s41, defScope s41, [], []⟩
abbrev s42 : Stmt := top 63
def d42 : He.DefD := ⟨("_law_same", none), "_law_same", "_law_same", defArgs s42, defBody s42, defScope s42, [], []⟩
abbrev s43 : Stmt := top 64
def d43 : He.DefD := ⟨("_law_mixed", none), "_law_mixed", "_law_mixed", defArgs s43, defBody s43, defScope s43, [], []⟩
abbrev s44 : Stmt := top 65
def d44 : He.DefD := ⟨("_law_word", none), "_law_word", "_law_word", defArgs s44, defBody s44, defScope s44, [], []⟩
abbrev s45 : Stmt := top 66
def d45 : He.DefD := ⟨("_law_in", none), "_law_in", "_law_in", defArgs s45, defBody s45, defScope s45, [], []⟩
abbrev s46 : Stmt := top 67
def d46 : He.DefD := ⟨("_law_drawn", none), "_law_drawn", "_law_drawn", defArgs s46, defBody s46, defScope s46, [], []⟩
abbrev s47 : Stmt := top 68
def d47 : He.DefD := ⟨("_law_made", none), "_law_made", "_law_made", defArgs s47, defBody s47, defScope s47, [], []⟩
abbrev s48 : Stmt := top 69
def d48 : He.DefD := ⟨("_law_branches", none), "_law_branches", "_law_branches", defArgs s48, defBody s48, defScope s48, [], []⟩
abbrev s49 : Stmt := top 70
def d49 : He.DefD := ⟨("_law_places", none), "_law_places", "_law_places", defArgs s49, defBody s49, defScope s49, [], []⟩
abbrev s50 : Stmt := top 71
def d50 : He.DefD := ⟨("_law_beat", none), "_law_beat", "_law_beat", defArgs s50, defBody s50, defScope s50, [], []⟩
abbrev s51 : Stmt := top 72
def d51 : He.DefD := ⟨("_law_run", none), "_law_run", "_law_run", defArgs s51, defBody s51, defScope s51, [], []⟩
abbrev s52 : Stmt := top 73
def d52 : He.DefD := ⟨("_law_end", none), "_law_end", "_law_end", defArgs s52, defBody s52, defScope s52, [], []⟩
abbrev s53 : Stmt := top 74
def d53 : He.DefD := ⟨("_law_asked", none), "_law_asked", "_law_asked", defArgs s53, defBody s53, defScope s53, [], []⟩
abbrev s54 : Stmt := top 75
def d54 : He.DefD := ⟨("_law_parts", none), "_law_parts", "_law_parts", defArgs s54, defBody s54, defScope s54, [], []⟩
abbrev s55 : Stmt := top 76
def d55 : He.DefD := ⟨("_law_ends_right", none), "_law_ends_right", "_law_ends_right", defArgs s55, defBody s55, defScope s55, [], []⟩
abbrev s56 : Stmt := top 77
def d56 : He.DefD := ⟨("_law_extremes_right", none), "_law_extremes_right", "_law_extremes_right", defArgs s56, defBody s56, defScope s56, [], []⟩
abbrev s57 : Stmt := top 78
def d57 : He.DefD := ⟨("_law_hurt_right", none), "_law_hurt_right", "_law_hurt_right", defArgs s57, defBody s57, defScope s57, [], []⟩
abbrev s58 : Stmt := top 79
def d58 : He.DefD := ⟨("_law_refused", none), "_law_refused", "_law_refused", defArgs s58, defBody s58, defScope s58, [], []⟩
abbrev s59 : Stmt := top 80
def d59 : He.DefD := ⟨("_law_refused_right", none), "_law_refused_right", "_law_refused_right", defArgs s59, defBody s59, defScope s59, [], []⟩
abbrev s60 : Stmt := top 81
def d60 : He.DefD := ⟨("law", none), "law", "law", defArgs s60, defBody s60, defScope s60, [], []⟩
def fn_0 : List He.DefD := [d0, d1, d2, d3, d4, d5, d6, d7, d8, d9, d10, d11, d12, d13, d14, d15, d16, d17, d18, d19, d20, d21, d22, d23, d24, d25, d26, d27, d28, d29]
def fn_1 : List He.DefD := [d30, d31, d32, d33, d34, d35, d36, d37, d38, d39, d40, d41, d42, d43, d44, d45, d46, d47, d48, d49, d50, d51, d52, d53, d54, d55, d56, d57, d58, d59]
def fn_2 : List He.DefD := [d60]
def fn : List He.DefD := fn_0 ++ (fn_1 ++ (fn_2))
def fa_0 : List He.Fa := [.glo "DarkError", .glo "InvalidWord", .glo "InvalidWords", .glo "InvalidCount", .glo "InvalidNet", .glo "InvalidGates", .glo "InvalidWires", .glo "InvalidHurts", .glo "InvalidSign", .glo "Net", .glo "is_integer", .glo "is_between", .glo "is_index", .glo "is_list", .glo "is_tuple", .glo "is_word", .glo "is_word_of", .glo "are_wires", .glo "is_gate", .glo "are_gates", .glo "need_net", .glo "has_place", .glo "gate_sign", .glo "step", .glo "run_on", .glo "is_sign", .glo "signs_in", .glo "hurts_in", .glo "need_words", .glo "need_hurts"]
def fa_1 : List He.Fa := [.glo "run", .glo "latch_behind", .glo "need_sign", .glo "is_plain", .glo "without_nots", .glo "top", .glo "bottom", .glo "last_words", .glo "extreme", .glo "_law_cell", .glo "_law_box", .glo "_law_take", .glo "_law_same", .glo "_law_mixed", .glo "_law_word", .glo "_law_in", .glo "_law_drawn", .glo "_law_made", .glo "_law_branches", .glo "_law_places", .glo "_law_beat", .glo "_law_run", .glo "_law_end", .glo "_law_asked", .glo "_law_parts", .glo "_law_ends_right", .glo "_law_extremes_right", .glo "_law_hurt_right", .glo "_law_refused", .glo "_law_refused_right"]
def fa_2 : List He.Fa := [.glo "law", .free "ValueError", .free "abs", .free "all", .free "any", .free "bool", .free "dict", .free "enumerate", .free "int", .free "isinstance", .free "len", .free "list", .free "max", .free "min", .free "range", .free "sorted", .free "str", .free "sum", .free "tuple", .free "zip", .int "MOST_SIGNS" 24, .str "AND" "and", .str "OR" "or", .str "NOT" "not", .str "WIRE" "wire", .str "GATE" "gate", .str "NEXT" "next", .str "OUT" "out", .int "MOST_WIRES" 24, .int "MOST_GATES" 2000]
def fa_3 : List He.Fa := [.int "MOST_READ" 64, .int "MOST_BEATS" 200, .int "FALL" 0, .int "RISE" 1, .mkr "Net"]
def fa : List He.Fa := fa_0 ++ (fa_1 ++ (fa_2 ++ (fa_3)))
def names_0 : List PySem.Str := ["DarkError", "InvalidWord", "InvalidWords", "InvalidCount", "InvalidNet", "InvalidGates", "InvalidWires", "InvalidHurts", "InvalidSign", "Net", "is_integer", "is_between", "is_index", "is_list", "is_tuple", "is_word", "is_word_of", "are_wires", "is_gate", "are_gates", "need_net", "has_place", "gate_sign", "step", "run_on", "is_sign", "signs_in", "hurts_in", "need_words", "need_hurts"]
def names_1 : List PySem.Str := ["run", "latch_behind", "need_sign", "is_plain", "without_nots", "top", "bottom", "last_words", "extreme", "_law_cell", "_law_box", "_law_take", "_law_same", "_law_mixed", "_law_word", "_law_in", "_law_drawn", "_law_made", "_law_branches", "_law_places", "_law_beat", "_law_run", "_law_end", "_law_asked", "_law_parts", "_law_ends_right", "_law_extremes_right", "_law_hurt_right", "_law_refused", "_law_refused_right"]
def names_2 : List PySem.Str := ["MOST_SIGNS", "AND", "OR", "NOT", "WIRE", "GATE", "NEXT", "OUT", "MOST_WIRES", "MOST_GATES", "MOST_READ", "MOST_BEATS", "FALL", "RISE"]
def names : List PySem.Str := names_0 ++ (names_1 ++ (names_2))
def CS : List Str := ["Net"]
def FSN : List Str := ["first", "gates", "ins", "latches", "nexts", "outs", "wires"]
def XS : List Str := ["InvalidWord", "InvalidWords", "InvalidCount", "InvalidNet", "InvalidGates", "InvalidWires", "InvalidHurts", "InvalidSign"]
def YS : List Str := ["DarkError", "InvalidWords", "InvalidNet", "InvalidSign"]
def FLD : Str := "given"
abbrev REC : Nat := 12
abbrev WH : Nat := 0
def HP : List (Str × Str) := [("InvalidWord", "DarkError"), ("InvalidWords", "DarkError"), ("InvalidWords", "InvalidWords"), ("InvalidCount", "DarkError"), ("InvalidNet", "DarkError"), ("InvalidNet", "InvalidNet"), ("InvalidGates", "DarkError"), ("InvalidWires", "DarkError"), ("InvalidHurts", "DarkError"), ("InvalidSign", "DarkError"), ("InvalidSign", "InvalidSign")]
def hit (c x : Str) : Bool := decide ((c, x) ∈ HP)
def ex (K : PySem.W.Frag) : Bool := tabB K (He.ga K) CS && (noatB K CS FSN && (hitB K XS YS hit && (XS.all (excB K FLD) && (baseB K (He.ga K "DarkError") && (eqvB K "Net")))))
/-- the facts: what the head tells of the written part -/
structure Zf (K : PySem.W.Frag) (mg : Str → Option Value) : Prop where
  ex : ∃ (h : Heap), K.In h ∧ h.Ns mainGlobals mg ∧ SaysY fa fn LW.ex K
section
variable {P : Program} {w : World} {K : PySem.W.Frag} {mg : Str → Option Value} {base : Heap}
theorem Zf.more (Z : Zf K mg) : LW.ex K = true := by
  obtain ⟨h, X, G, c⟩ := Z.ex
  exact c.more
theorem Zf.tab (Z : Zf K mg) : Tab K (He.ga K) CS := tabB_ok (Bool.and_eq_true_iff.mp Z.more).1
theorem Zf.na (Z : Zf K mg) : ∀ c ∈ CS, ∀ f ∈ FSN, NoAttr K (He.ga K c) f := noatB_ok (Bool.and_eq_true_iff.mp (Bool.and_eq_true_iff.mp Z.more).2).1
theorem Zf.hit (Z : Zf K mg) : ∀ c ∈ XS, ∀ (x : Str), x ∈ YS → PySem.W.exmOne K (.ref (He.ga K c)) (.ref (He.ga K x)) = some (LW.hit c x) := hitB_ok (Bool.and_eq_true_iff.mp (Bool.and_eq_true_iff.mp (Bool.and_eq_true_iff.mp Z.more).2).2).1
theorem Zf.exc (Z : Zf K mg) {c : Str} (h : c ∈ XS) : ExcF K FLD c := excB_ok (List.all_eq_true.mp (Bool.and_eq_true_iff.mp (Bool.and_eq_true_iff.mp (Bool.and_eq_true_iff.mp (Bool.and_eq_true_iff.mp Z.more).2).2).2).1 c h)
theorem Zf.xf (Z : Zf K mg) {c : Str} (h : c ∈ XS) : XfC K (He.ga K c) ∧ PySem.W.findIn K (.ref (He.ga K c)) FLD = some none := ⟨(Z.exc h).2.2.2.2, (Z.exc h).2.1⟩
theorem Zf.base_DarkError (Z : Zf K mg) : BaseI K (He.ga K "DarkError") := baseB_ok (Bool.and_eq_true_iff.mp (Bool.and_eq_true_iff.mp (Bool.and_eq_true_iff.mp (Bool.and_eq_true_iff.mp (Bool.and_eq_true_iff.mp Z.more).2).2).2).2).1
theorem Zf.c_DarkError (Z : Zf K mg) : mg "DarkError" = some (.ref (He.ga K "DarkError")) := by
  obtain ⟨h, X, G, c⟩ := Z.ex
  exact He.glo_ok X G (c.d.fact 0 (f := .glo "DarkError") rfl)
theorem Zf.c_InvalidWord (Z : Zf K mg) : mg "InvalidWord" = some (.ref (He.ga K "InvalidWord")) := by
  obtain ⟨h, X, G, c⟩ := Z.ex
  exact He.glo_ok X G (c.d.fact 1 (f := .glo "InvalidWord") rfl)
theorem Zf.c_InvalidWords (Z : Zf K mg) : mg "InvalidWords" = some (.ref (He.ga K "InvalidWords")) := by
  obtain ⟨h, X, G, c⟩ := Z.ex
  exact He.glo_ok X G (c.d.fact 2 (f := .glo "InvalidWords") rfl)
theorem Zf.c_InvalidCount (Z : Zf K mg) : mg "InvalidCount" = some (.ref (He.ga K "InvalidCount")) := by
  obtain ⟨h, X, G, c⟩ := Z.ex
  exact He.glo_ok X G (c.d.fact 3 (f := .glo "InvalidCount") rfl)
theorem Zf.c_InvalidNet (Z : Zf K mg) : mg "InvalidNet" = some (.ref (He.ga K "InvalidNet")) := by
  obtain ⟨h, X, G, c⟩ := Z.ex
  exact He.glo_ok X G (c.d.fact 4 (f := .glo "InvalidNet") rfl)
theorem Zf.c_InvalidGates (Z : Zf K mg) : mg "InvalidGates" = some (.ref (He.ga K "InvalidGates")) := by
  obtain ⟨h, X, G, c⟩ := Z.ex
  exact He.glo_ok X G (c.d.fact 5 (f := .glo "InvalidGates") rfl)
theorem Zf.c_InvalidWires (Z : Zf K mg) : mg "InvalidWires" = some (.ref (He.ga K "InvalidWires")) := by
  obtain ⟨h, X, G, c⟩ := Z.ex
  exact He.glo_ok X G (c.d.fact 6 (f := .glo "InvalidWires") rfl)
theorem Zf.c_InvalidHurts (Z : Zf K mg) : mg "InvalidHurts" = some (.ref (He.ga K "InvalidHurts")) := by
  obtain ⟨h, X, G, c⟩ := Z.ex
  exact He.glo_ok X G (c.d.fact 7 (f := .glo "InvalidHurts") rfl)
theorem Zf.c_InvalidSign (Z : Zf K mg) : mg "InvalidSign" = some (.ref (He.ga K "InvalidSign")) := by
  obtain ⟨h, X, G, c⟩ := Z.ex
  exact He.glo_ok X G (c.d.fact 8 (f := .glo "InvalidSign") rfl)
theorem Zf.c_Net (Z : Zf K mg) : mg "Net" = some (.ref (He.ga K "Net")) := by
  obtain ⟨h, X, G, c⟩ := Z.ex
  exact He.glo_ok X G (c.d.fact 9 (f := .glo "Net") rfl)
theorem Zf.f_is_integer (Z : Zf K mg) : mg "is_integer" = some (.ref (He.ga K "is_integer")) := by
  obtain ⟨h, X, G, c⟩ := Z.ex
  exact He.glo_ok X G (c.d.fact 10 (f := .glo "is_integer") rfl)
theorem Zf.f_is_between (Z : Zf K mg) : mg "is_between" = some (.ref (He.ga K "is_between")) := by
  obtain ⟨h, X, G, c⟩ := Z.ex
  exact He.glo_ok X G (c.d.fact 11 (f := .glo "is_between") rfl)
theorem Zf.f_is_index (Z : Zf K mg) : mg "is_index" = some (.ref (He.ga K "is_index")) := by
  obtain ⟨h, X, G, c⟩ := Z.ex
  exact He.glo_ok X G (c.d.fact 12 (f := .glo "is_index") rfl)
theorem Zf.f_is_list (Z : Zf K mg) : mg "is_list" = some (.ref (He.ga K "is_list")) := by
  obtain ⟨h, X, G, c⟩ := Z.ex
  exact He.glo_ok X G (c.d.fact 13 (f := .glo "is_list") rfl)
theorem Zf.f_is_tuple (Z : Zf K mg) : mg "is_tuple" = some (.ref (He.ga K "is_tuple")) := by
  obtain ⟨h, X, G, c⟩ := Z.ex
  exact He.glo_ok X G (c.d.fact 14 (f := .glo "is_tuple") rfl)
theorem Zf.f_is_word (Z : Zf K mg) : mg "is_word" = some (.ref (He.ga K "is_word")) := by
  obtain ⟨h, X, G, c⟩ := Z.ex
  exact He.glo_ok X G (c.d.fact 15 (f := .glo "is_word") rfl)
theorem Zf.f_is_word_of (Z : Zf K mg) : mg "is_word_of" = some (.ref (He.ga K "is_word_of")) := by
  obtain ⟨h, X, G, c⟩ := Z.ex
  exact He.glo_ok X G (c.d.fact 16 (f := .glo "is_word_of") rfl)
theorem Zf.f_are_wires (Z : Zf K mg) : mg "are_wires" = some (.ref (He.ga K "are_wires")) := by
  obtain ⟨h, X, G, c⟩ := Z.ex
  exact He.glo_ok X G (c.d.fact 17 (f := .glo "are_wires") rfl)
theorem Zf.f_is_gate (Z : Zf K mg) : mg "is_gate" = some (.ref (He.ga K "is_gate")) := by
  obtain ⟨h, X, G, c⟩ := Z.ex
  exact He.glo_ok X G (c.d.fact 18 (f := .glo "is_gate") rfl)
theorem Zf.f_are_gates (Z : Zf K mg) : mg "are_gates" = some (.ref (He.ga K "are_gates")) := by
  obtain ⟨h, X, G, c⟩ := Z.ex
  exact He.glo_ok X G (c.d.fact 19 (f := .glo "are_gates") rfl)
theorem Zf.f_need_net (Z : Zf K mg) : mg "need_net" = some (.ref (He.ga K "need_net")) := by
  obtain ⟨h, X, G, c⟩ := Z.ex
  exact He.glo_ok X G (c.d.fact 20 (f := .glo "need_net") rfl)
theorem Zf.f_has_place (Z : Zf K mg) : mg "has_place" = some (.ref (He.ga K "has_place")) := by
  obtain ⟨h, X, G, c⟩ := Z.ex
  exact He.glo_ok X G (c.d.fact 21 (f := .glo "has_place") rfl)
theorem Zf.f_gate_sign (Z : Zf K mg) : mg "gate_sign" = some (.ref (He.ga K "gate_sign")) := by
  obtain ⟨h, X, G, c⟩ := Z.ex
  exact He.glo_ok X G (c.d.fact 22 (f := .glo "gate_sign") rfl)
theorem Zf.f_step (Z : Zf K mg) : mg "step" = some (.ref (He.ga K "step")) := by
  obtain ⟨h, X, G, c⟩ := Z.ex
  exact He.glo_ok X G (c.d.fact 23 (f := .glo "step") rfl)
theorem Zf.f_run_on (Z : Zf K mg) : mg "run_on" = some (.ref (He.ga K "run_on")) := by
  obtain ⟨h, X, G, c⟩ := Z.ex
  exact He.glo_ok X G (c.d.fact 24 (f := .glo "run_on") rfl)
theorem Zf.f_is_sign (Z : Zf K mg) : mg "is_sign" = some (.ref (He.ga K "is_sign")) := by
  obtain ⟨h, X, G, c⟩ := Z.ex
  exact He.glo_ok X G (c.d.fact 25 (f := .glo "is_sign") rfl)
theorem Zf.f_signs_in (Z : Zf K mg) : mg "signs_in" = some (.ref (He.ga K "signs_in")) := by
  obtain ⟨h, X, G, c⟩ := Z.ex
  exact He.glo_ok X G (c.d.fact 26 (f := .glo "signs_in") rfl)
theorem Zf.f_hurts_in (Z : Zf K mg) : mg "hurts_in" = some (.ref (He.ga K "hurts_in")) := by
  obtain ⟨h, X, G, c⟩ := Z.ex
  exact He.glo_ok X G (c.d.fact 27 (f := .glo "hurts_in") rfl)
theorem Zf.f_need_words (Z : Zf K mg) : mg "need_words" = some (.ref (He.ga K "need_words")) := by
  obtain ⟨h, X, G, c⟩ := Z.ex
  exact He.glo_ok X G (c.d.fact 28 (f := .glo "need_words") rfl)
theorem Zf.f_need_hurts (Z : Zf K mg) : mg "need_hurts" = some (.ref (He.ga K "need_hurts")) := by
  obtain ⟨h, X, G, c⟩ := Z.ex
  exact He.glo_ok X G (c.d.fact 29 (f := .glo "need_hurts") rfl)
theorem Zf.f_run (Z : Zf K mg) : mg "run" = some (.ref (He.ga K "run")) := by
  obtain ⟨h, X, G, c⟩ := Z.ex
  exact He.glo_ok X G (c.d.fact 30 (f := .glo "run") rfl)
theorem Zf.f_latch_behind (Z : Zf K mg) : mg "latch_behind" = some (.ref (He.ga K "latch_behind")) := by
  obtain ⟨h, X, G, c⟩ := Z.ex
  exact He.glo_ok X G (c.d.fact 31 (f := .glo "latch_behind") rfl)
theorem Zf.f_need_sign (Z : Zf K mg) : mg "need_sign" = some (.ref (He.ga K "need_sign")) := by
  obtain ⟨h, X, G, c⟩ := Z.ex
  exact He.glo_ok X G (c.d.fact 32 (f := .glo "need_sign") rfl)
theorem Zf.f_is_plain (Z : Zf K mg) : mg "is_plain" = some (.ref (He.ga K "is_plain")) := by
  obtain ⟨h, X, G, c⟩ := Z.ex
  exact He.glo_ok X G (c.d.fact 33 (f := .glo "is_plain") rfl)
theorem Zf.f_without_nots (Z : Zf K mg) : mg "without_nots" = some (.ref (He.ga K "without_nots")) := by
  obtain ⟨h, X, G, c⟩ := Z.ex
  exact He.glo_ok X G (c.d.fact 34 (f := .glo "without_nots") rfl)
theorem Zf.f_top (Z : Zf K mg) : mg "top" = some (.ref (He.ga K "top")) := by
  obtain ⟨h, X, G, c⟩ := Z.ex
  exact He.glo_ok X G (c.d.fact 35 (f := .glo "top") rfl)
theorem Zf.f_bottom (Z : Zf K mg) : mg "bottom" = some (.ref (He.ga K "bottom")) := by
  obtain ⟨h, X, G, c⟩ := Z.ex
  exact He.glo_ok X G (c.d.fact 36 (f := .glo "bottom") rfl)
theorem Zf.f_last_words (Z : Zf K mg) : mg "last_words" = some (.ref (He.ga K "last_words")) := by
  obtain ⟨h, X, G, c⟩ := Z.ex
  exact He.glo_ok X G (c.d.fact 37 (f := .glo "last_words") rfl)
theorem Zf.f_extreme (Z : Zf K mg) : mg "extreme" = some (.ref (He.ga K "extreme")) := by
  obtain ⟨h, X, G, c⟩ := Z.ex
  exact He.glo_ok X G (c.d.fact 38 (f := .glo "extreme") rfl)
theorem Zf.f__law_cell (Z : Zf K mg) : mg "_law_cell" = some (.ref (He.ga K "_law_cell")) := by
  obtain ⟨h, X, G, c⟩ := Z.ex
  exact He.glo_ok X G (c.d.fact 39 (f := .glo "_law_cell") rfl)
theorem Zf.f__law_box (Z : Zf K mg) : mg "_law_box" = some (.ref (He.ga K "_law_box")) := by
  obtain ⟨h, X, G, c⟩ := Z.ex
  exact He.glo_ok X G (c.d.fact 40 (f := .glo "_law_box") rfl)
theorem Zf.f__law_take (Z : Zf K mg) : mg "_law_take" = some (.ref (He.ga K "_law_take")) := by
  obtain ⟨h, X, G, c⟩ := Z.ex
  exact He.glo_ok X G (c.d.fact 41 (f := .glo "_law_take") rfl)
theorem Zf.f__law_same (Z : Zf K mg) : mg "_law_same" = some (.ref (He.ga K "_law_same")) := by
  obtain ⟨h, X, G, c⟩ := Z.ex
  exact He.glo_ok X G (c.d.fact 42 (f := .glo "_law_same") rfl)
theorem Zf.f__law_mixed (Z : Zf K mg) : mg "_law_mixed" = some (.ref (He.ga K "_law_mixed")) := by
  obtain ⟨h, X, G, c⟩ := Z.ex
  exact He.glo_ok X G (c.d.fact 43 (f := .glo "_law_mixed") rfl)
theorem Zf.f__law_word (Z : Zf K mg) : mg "_law_word" = some (.ref (He.ga K "_law_word")) := by
  obtain ⟨h, X, G, c⟩ := Z.ex
  exact He.glo_ok X G (c.d.fact 44 (f := .glo "_law_word") rfl)
theorem Zf.f__law_in (Z : Zf K mg) : mg "_law_in" = some (.ref (He.ga K "_law_in")) := by
  obtain ⟨h, X, G, c⟩ := Z.ex
  exact He.glo_ok X G (c.d.fact 45 (f := .glo "_law_in") rfl)
theorem Zf.f__law_drawn (Z : Zf K mg) : mg "_law_drawn" = some (.ref (He.ga K "_law_drawn")) := by
  obtain ⟨h, X, G, c⟩ := Z.ex
  exact He.glo_ok X G (c.d.fact 46 (f := .glo "_law_drawn") rfl)
theorem Zf.f__law_made (Z : Zf K mg) : mg "_law_made" = some (.ref (He.ga K "_law_made")) := by
  obtain ⟨h, X, G, c⟩ := Z.ex
  exact He.glo_ok X G (c.d.fact 47 (f := .glo "_law_made") rfl)
theorem Zf.f__law_branches (Z : Zf K mg) : mg "_law_branches" = some (.ref (He.ga K "_law_branches")) := by
  obtain ⟨h, X, G, c⟩ := Z.ex
  exact He.glo_ok X G (c.d.fact 48 (f := .glo "_law_branches") rfl)
theorem Zf.f__law_places (Z : Zf K mg) : mg "_law_places" = some (.ref (He.ga K "_law_places")) := by
  obtain ⟨h, X, G, c⟩ := Z.ex
  exact He.glo_ok X G (c.d.fact 49 (f := .glo "_law_places") rfl)
theorem Zf.f__law_beat (Z : Zf K mg) : mg "_law_beat" = some (.ref (He.ga K "_law_beat")) := by
  obtain ⟨h, X, G, c⟩ := Z.ex
  exact He.glo_ok X G (c.d.fact 50 (f := .glo "_law_beat") rfl)
theorem Zf.f__law_run (Z : Zf K mg) : mg "_law_run" = some (.ref (He.ga K "_law_run")) := by
  obtain ⟨h, X, G, c⟩ := Z.ex
  exact He.glo_ok X G (c.d.fact 51 (f := .glo "_law_run") rfl)
theorem Zf.f__law_end (Z : Zf K mg) : mg "_law_end" = some (.ref (He.ga K "_law_end")) := by
  obtain ⟨h, X, G, c⟩ := Z.ex
  exact He.glo_ok X G (c.d.fact 52 (f := .glo "_law_end") rfl)
theorem Zf.f__law_asked (Z : Zf K mg) : mg "_law_asked" = some (.ref (He.ga K "_law_asked")) := by
  obtain ⟨h, X, G, c⟩ := Z.ex
  exact He.glo_ok X G (c.d.fact 53 (f := .glo "_law_asked") rfl)
theorem Zf.f__law_parts (Z : Zf K mg) : mg "_law_parts" = some (.ref (He.ga K "_law_parts")) := by
  obtain ⟨h, X, G, c⟩ := Z.ex
  exact He.glo_ok X G (c.d.fact 54 (f := .glo "_law_parts") rfl)
theorem Zf.f__law_ends_right (Z : Zf K mg) : mg "_law_ends_right" = some (.ref (He.ga K "_law_ends_right")) := by
  obtain ⟨h, X, G, c⟩ := Z.ex
  exact He.glo_ok X G (c.d.fact 55 (f := .glo "_law_ends_right") rfl)
theorem Zf.f__law_extremes_right (Z : Zf K mg) : mg "_law_extremes_right" = some (.ref (He.ga K "_law_extremes_right")) := by
  obtain ⟨h, X, G, c⟩ := Z.ex
  exact He.glo_ok X G (c.d.fact 56 (f := .glo "_law_extremes_right") rfl)
theorem Zf.f__law_hurt_right (Z : Zf K mg) : mg "_law_hurt_right" = some (.ref (He.ga K "_law_hurt_right")) := by
  obtain ⟨h, X, G, c⟩ := Z.ex
  exact He.glo_ok X G (c.d.fact 57 (f := .glo "_law_hurt_right") rfl)
theorem Zf.f__law_refused (Z : Zf K mg) : mg "_law_refused" = some (.ref (He.ga K "_law_refused")) := by
  obtain ⟨h, X, G, c⟩ := Z.ex
  exact He.glo_ok X G (c.d.fact 58 (f := .glo "_law_refused") rfl)
theorem Zf.f__law_refused_right (Z : Zf K mg) : mg "_law_refused_right" = some (.ref (He.ga K "_law_refused_right")) := by
  obtain ⟨h, X, G, c⟩ := Z.ex
  exact He.glo_ok X G (c.d.fact 59 (f := .glo "_law_refused_right") rfl)
theorem Zf.f_law (Z : Zf K mg) : mg "law" = some (.ref (He.ga K "law")) := by
  obtain ⟨h, X, G, c⟩ := Z.ex
  exact He.glo_ok X G (c.d.fact 60 (f := .glo "law") rfl)
theorem Zf.b_ValueError (Z : Zf K mg) : mg "ValueError" = none := by
  obtain ⟨h, X, G, c⟩ := Z.ex
  exact He.free_ok X G (c.d.fact 61 (f := .free "ValueError") rfl)
theorem Zf.b_abs (Z : Zf K mg) : mg "abs" = none := by
  obtain ⟨h, X, G, c⟩ := Z.ex
  exact He.free_ok X G (c.d.fact 62 (f := .free "abs") rfl)
theorem Zf.b_all (Z : Zf K mg) : mg "all" = none := by
  obtain ⟨h, X, G, c⟩ := Z.ex
  exact He.free_ok X G (c.d.fact 63 (f := .free "all") rfl)
theorem Zf.b_any (Z : Zf K mg) : mg "any" = none := by
  obtain ⟨h, X, G, c⟩ := Z.ex
  exact He.free_ok X G (c.d.fact 64 (f := .free "any") rfl)
theorem Zf.b_bool (Z : Zf K mg) : mg "bool" = none := by
  obtain ⟨h, X, G, c⟩ := Z.ex
  exact He.free_ok X G (c.d.fact 65 (f := .free "bool") rfl)
theorem Zf.b_dict (Z : Zf K mg) : mg "dict" = none := by
  obtain ⟨h, X, G, c⟩ := Z.ex
  exact He.free_ok X G (c.d.fact 66 (f := .free "dict") rfl)
theorem Zf.b_enumerate (Z : Zf K mg) : mg "enumerate" = none := by
  obtain ⟨h, X, G, c⟩ := Z.ex
  exact He.free_ok X G (c.d.fact 67 (f := .free "enumerate") rfl)
theorem Zf.b_int (Z : Zf K mg) : mg "int" = none := by
  obtain ⟨h, X, G, c⟩ := Z.ex
  exact He.free_ok X G (c.d.fact 68 (f := .free "int") rfl)
theorem Zf.b_isinstance (Z : Zf K mg) : mg "isinstance" = none := by
  obtain ⟨h, X, G, c⟩ := Z.ex
  exact He.free_ok X G (c.d.fact 69 (f := .free "isinstance") rfl)
theorem Zf.b_len (Z : Zf K mg) : mg "len" = none := by
  obtain ⟨h, X, G, c⟩ := Z.ex
  exact He.free_ok X G (c.d.fact 70 (f := .free "len") rfl)
theorem Zf.b_list (Z : Zf K mg) : mg "list" = none := by
  obtain ⟨h, X, G, c⟩ := Z.ex
  exact He.free_ok X G (c.d.fact 71 (f := .free "list") rfl)
theorem Zf.b_max (Z : Zf K mg) : mg "max" = none := by
  obtain ⟨h, X, G, c⟩ := Z.ex
  exact He.free_ok X G (c.d.fact 72 (f := .free "max") rfl)
theorem Zf.b_min (Z : Zf K mg) : mg "min" = none := by
  obtain ⟨h, X, G, c⟩ := Z.ex
  exact He.free_ok X G (c.d.fact 73 (f := .free "min") rfl)
theorem Zf.b_range (Z : Zf K mg) : mg "range" = none := by
  obtain ⟨h, X, G, c⟩ := Z.ex
  exact He.free_ok X G (c.d.fact 74 (f := .free "range") rfl)
theorem Zf.b_sorted (Z : Zf K mg) : mg "sorted" = none := by
  obtain ⟨h, X, G, c⟩ := Z.ex
  exact He.free_ok X G (c.d.fact 75 (f := .free "sorted") rfl)
theorem Zf.b_str (Z : Zf K mg) : mg "str" = none := by
  obtain ⟨h, X, G, c⟩ := Z.ex
  exact He.free_ok X G (c.d.fact 76 (f := .free "str") rfl)
theorem Zf.b_sum (Z : Zf K mg) : mg "sum" = none := by
  obtain ⟨h, X, G, c⟩ := Z.ex
  exact He.free_ok X G (c.d.fact 77 (f := .free "sum") rfl)
theorem Zf.b_tuple (Z : Zf K mg) : mg "tuple" = none := by
  obtain ⟨h, X, G, c⟩ := Z.ex
  exact He.free_ok X G (c.d.fact 78 (f := .free "tuple") rfl)
theorem Zf.b_zip (Z : Zf K mg) : mg "zip" = none := by
  obtain ⟨h, X, G, c⟩ := Z.ex
  exact He.free_ok X G (c.d.fact 79 (f := .free "zip") rfl)
theorem Zf.g_MOST_SIGNS (Z : Zf K mg) : ∃ t, mg "MOST_SIGNS" = some (.int 24 t) := by
  obtain ⟨h, X, G, c⟩ := Z.ex
  exact He.int_ok X G (c.d.fact 80 (f := .int "MOST_SIGNS" 24) rfl)
theorem Zf.g_AND (Z : Zf K mg) : ∃ t, mg "AND" = some (.str "and" t) := by
  obtain ⟨h, X, G, c⟩ := Z.ex
  exact He.str_ok X G (c.d.fact 81 (f := .str "AND" "and") rfl)
theorem Zf.g_OR (Z : Zf K mg) : ∃ t, mg "OR" = some (.str "or" t) := by
  obtain ⟨h, X, G, c⟩ := Z.ex
  exact He.str_ok X G (c.d.fact 82 (f := .str "OR" "or") rfl)
theorem Zf.g_NOT (Z : Zf K mg) : ∃ t, mg "NOT" = some (.str "not" t) := by
  obtain ⟨h, X, G, c⟩ := Z.ex
  exact He.str_ok X G (c.d.fact 83 (f := .str "NOT" "not") rfl)
theorem Zf.g_WIRE (Z : Zf K mg) : ∃ t, mg "WIRE" = some (.str "wire" t) := by
  obtain ⟨h, X, G, c⟩ := Z.ex
  exact He.str_ok X G (c.d.fact 84 (f := .str "WIRE" "wire") rfl)
theorem Zf.g_GATE (Z : Zf K mg) : ∃ t, mg "GATE" = some (.str "gate" t) := by
  obtain ⟨h, X, G, c⟩ := Z.ex
  exact He.str_ok X G (c.d.fact 85 (f := .str "GATE" "gate") rfl)
theorem Zf.g_NEXT (Z : Zf K mg) : ∃ t, mg "NEXT" = some (.str "next" t) := by
  obtain ⟨h, X, G, c⟩ := Z.ex
  exact He.str_ok X G (c.d.fact 86 (f := .str "NEXT" "next") rfl)
theorem Zf.g_OUT (Z : Zf K mg) : ∃ t, mg "OUT" = some (.str "out" t) := by
  obtain ⟨h, X, G, c⟩ := Z.ex
  exact He.str_ok X G (c.d.fact 87 (f := .str "OUT" "out") rfl)
theorem Zf.g_MOST_WIRES (Z : Zf K mg) : ∃ t, mg "MOST_WIRES" = some (.int 24 t) := by
  obtain ⟨h, X, G, c⟩ := Z.ex
  exact He.int_ok X G (c.d.fact 88 (f := .int "MOST_WIRES" 24) rfl)
theorem Zf.g_MOST_GATES (Z : Zf K mg) : ∃ t, mg "MOST_GATES" = some (.int 2000 t) := by
  obtain ⟨h, X, G, c⟩ := Z.ex
  exact He.int_ok X G (c.d.fact 89 (f := .int "MOST_GATES" 2000) rfl)
theorem Zf.g_MOST_READ (Z : Zf K mg) : ∃ t, mg "MOST_READ" = some (.int 64 t) := by
  obtain ⟨h, X, G, c⟩ := Z.ex
  exact He.int_ok X G (c.d.fact 90 (f := .int "MOST_READ" 64) rfl)
theorem Zf.g_MOST_BEATS (Z : Zf K mg) : ∃ t, mg "MOST_BEATS" = some (.int 200 t) := by
  obtain ⟨h, X, G, c⟩ := Z.ex
  exact He.int_ok X G (c.d.fact 91 (f := .int "MOST_BEATS" 200) rfl)
theorem Zf.g_FALL (Z : Zf K mg) : ∃ t, mg "FALL" = some (.int 0 t) := by
  obtain ⟨h, X, G, c⟩ := Z.ex
  exact He.int_ok X G (c.d.fact 92 (f := .int "FALL" 0) rfl)
theorem Zf.g_RISE (Z : Zf K mg) : ∃ t, mg "RISE" = some (.int 1 t) := by
  obtain ⟨h, X, G, c⟩ := Z.ex
  exact He.int_ok X G (c.d.fact 93 (f := .int "RISE" 1) rfl)
theorem Zf.m_Net (Z : Zf K mg) : Mk K (He.ga K "Net") (He.ma K (He.ga K "Net") "__init__") := by
  obtain ⟨h, X, G, c⟩ := Z.ex
  exact He.mkr_ok (c.d.fact 94 (f := .mkr "Net") rfl)
theorem Zf.d_0 (Z : Zf K mg) : ∃ fd, FnAt K "__init__" "InvalidWord.__init__" s0 (He.ma K (He.ga K "InvalidWord") "__init__") fd ∧ L2.Binds K fd ["self", "given"] [] := by
  obtain ⟨h, X, G, c⟩ := Z.ex
  obtain ⟨fd, F⟩ := c.d.def_ 0 (d := d0) rfl
  exact ⟨fd, F, FunD.bindsN F fun _ _ _ _ _ _ us hl => match us, hl with | [_, _], _ => rfl⟩
theorem Zf.d_1 (Z : Zf K mg) : ∃ fd, FnAt K "__init__" "InvalidWords.__init__" s1 (He.ma K (He.ga K "InvalidWords") "__init__") fd ∧ L2.Binds K fd ["self", "given"] [] := by
  obtain ⟨h, X, G, c⟩ := Z.ex
  obtain ⟨fd, F⟩ := c.d.def_ 1 (d := d1) rfl
  exact ⟨fd, F, FunD.bindsN F fun _ _ _ _ _ _ us hl => match us, hl with | [_, _], _ => rfl⟩
theorem Zf.d_2 (Z : Zf K mg) : ∃ fd, FnAt K "__init__" "InvalidCount.__init__" s2 (He.ma K (He.ga K "InvalidCount") "__init__") fd ∧ L2.Binds K fd ["self", "given"] [] := by
  obtain ⟨h, X, G, c⟩ := Z.ex
  obtain ⟨fd, F⟩ := c.d.def_ 2 (d := d2) rfl
  exact ⟨fd, F, FunD.bindsN F fun _ _ _ _ _ _ us hl => match us, hl with | [_, _], _ => rfl⟩
theorem Zf.d_3 (Z : Zf K mg) : ∃ fd, FnAt K "__init__" "InvalidNet.__init__" s3 (He.ma K (He.ga K "InvalidNet") "__init__") fd ∧ L2.Binds K fd ["self", "given"] [] := by
  obtain ⟨h, X, G, c⟩ := Z.ex
  obtain ⟨fd, F⟩ := c.d.def_ 3 (d := d3) rfl
  exact ⟨fd, F, FunD.bindsN F fun _ _ _ _ _ _ us hl => match us, hl with | [_, _], _ => rfl⟩
theorem Zf.d_4 (Z : Zf K mg) : ∃ fd, FnAt K "__init__" "InvalidGates.__init__" s4 (He.ma K (He.ga K "InvalidGates") "__init__") fd ∧ L2.Binds K fd ["self", "given"] [] := by
  obtain ⟨h, X, G, c⟩ := Z.ex
  obtain ⟨fd, F⟩ := c.d.def_ 4 (d := d4) rfl
  exact ⟨fd, F, FunD.bindsN F fun _ _ _ _ _ _ us hl => match us, hl with | [_, _], _ => rfl⟩
theorem Zf.d_5 (Z : Zf K mg) : ∃ fd, FnAt K "__init__" "InvalidWires.__init__" s5 (He.ma K (He.ga K "InvalidWires") "__init__") fd ∧ L2.Binds K fd ["self", "given"] [] := by
  obtain ⟨h, X, G, c⟩ := Z.ex
  obtain ⟨fd, F⟩ := c.d.def_ 5 (d := d5) rfl
  exact ⟨fd, F, FunD.bindsN F fun _ _ _ _ _ _ us hl => match us, hl with | [_, _], _ => rfl⟩
theorem Zf.d_6 (Z : Zf K mg) : ∃ fd, FnAt K "__init__" "InvalidHurts.__init__" s6 (He.ma K (He.ga K "InvalidHurts") "__init__") fd ∧ L2.Binds K fd ["self", "given"] [] := by
  obtain ⟨h, X, G, c⟩ := Z.ex
  obtain ⟨fd, F⟩ := c.d.def_ 6 (d := d6) rfl
  exact ⟨fd, F, FunD.bindsN F fun _ _ _ _ _ _ us hl => match us, hl with | [_, _], _ => rfl⟩
theorem Zf.d_7 (Z : Zf K mg) : ∃ fd, FnAt K "__init__" "InvalidSign.__init__" s7 (He.ma K (He.ga K "InvalidSign") "__init__") fd ∧ L2.Binds K fd ["self", "given"] [] := by
  obtain ⟨h, X, G, c⟩ := Z.ex
  obtain ⟨fd, F⟩ := c.d.def_ 7 (d := d7) rfl
  exact ⟨fd, F, FunD.bindsN F fun _ _ _ _ _ _ us hl => match us, hl with | [_, _], _ => rfl⟩
theorem Zf.d_8 (Z : Zf K mg) : DefIs K mg "is_integer" s8 ["value"] := by
  obtain ⟨h, X, G, c⟩ := Z.ex
  obtain ⟨fd, F⟩ := c.d.def_ 8 (d := d8) rfl
  exact ⟨_, fd, Z.f_is_integer, F, FunD.bindsN F fun _ _ _ _ _ _ us hl => match us, hl with | [_], _ => rfl⟩
theorem Zf.d_9 (Z : Zf K mg) : DefIs K mg "is_between" s9 ["value", "low", "high"] := by
  obtain ⟨h, X, G, c⟩ := Z.ex
  obtain ⟨fd, F⟩ := c.d.def_ 9 (d := d9) rfl
  exact ⟨_, fd, Z.f_is_between, F, FunD.bindsN F fun _ _ _ _ _ _ us hl => match us, hl with | [_, _, _], _ => rfl⟩
theorem Zf.d_10 (Z : Zf K mg) : DefIs K mg "is_index" s10 ["value", "length"] := by
  obtain ⟨h, X, G, c⟩ := Z.ex
  obtain ⟨fd, F⟩ := c.d.def_ 10 (d := d10) rfl
  exact ⟨_, fd, Z.f_is_index, F, FunD.bindsN F fun _ _ _ _ _ _ us hl => match us, hl with | [_, _], _ => rfl⟩
theorem Zf.d_11 (Z : Zf K mg) : DefIs K mg "is_list" s11 ["value"] := by
  obtain ⟨h, X, G, c⟩ := Z.ex
  obtain ⟨fd, F⟩ := c.d.def_ 11 (d := d11) rfl
  exact ⟨_, fd, Z.f_is_list, F, FunD.bindsN F fun _ _ _ _ _ _ us hl => match us, hl with | [_], _ => rfl⟩
theorem Zf.d_12 (Z : Zf K mg) : DefIs K mg "is_tuple" s12 ["value", "length"] := by
  obtain ⟨h, X, G, c⟩ := Z.ex
  obtain ⟨fd, F⟩ := c.d.def_ 12 (d := d12) rfl
  exact ⟨_, fd, Z.f_is_tuple, F, FunD.bindsN F fun _ _ _ _ _ _ us hl => match us, hl with | [_, _], _ => rfl⟩
theorem Zf.d_13 (Z : Zf K mg) : DefIs K mg "is_word" s13 ["value"] := by
  obtain ⟨h, X, G, c⟩ := Z.ex
  obtain ⟨fd, F⟩ := c.d.def_ 13 (d := d13) rfl
  exact ⟨_, fd, Z.f_is_word, F, FunD.bindsN F fun _ _ _ _ _ _ us hl => match us, hl with | [_], _ => rfl⟩
theorem Zf.d_14 (Z : Zf K mg) : DefIs K mg "is_word_of" s14 ["value", "length"] := by
  obtain ⟨h, X, G, c⟩ := Z.ex
  obtain ⟨fd, F⟩ := c.d.def_ 14 (d := d14) rfl
  exact ⟨_, fd, Z.f_is_word_of, F, FunD.bindsN F fun _ _ _ _ _ _ us hl => match us, hl with | [_, _], _ => rfl⟩
theorem Zf.d_15 (Z : Zf K mg) : DefIs K mg "are_wires" s15 ["value", "many"] := by
  obtain ⟨h, X, G, c⟩ := Z.ex
  obtain ⟨fd, F⟩ := c.d.def_ 15 (d := d15) rfl
  exact ⟨_, fd, Z.f_are_wires, F, FunD.bindsN F fun _ _ _ _ _ _ us hl => match us, hl with | [_, _], _ => rfl⟩
theorem Zf.d_16 (Z : Zf K mg) : DefIs K mg "is_gate" s16 ["value", "own"] := by
  obtain ⟨h, X, G, c⟩ := Z.ex
  obtain ⟨fd, F⟩ := c.d.def_ 16 (d := d16) rfl
  exact ⟨_, fd, Z.f_is_gate, F, FunD.bindsN F fun _ _ _ _ _ _ us hl => match us, hl with | [_, _], _ => rfl⟩
theorem Zf.d_17 (Z : Zf K mg) : DefIs K mg "are_gates" s17 ["value", "first"] := by
  obtain ⟨h, X, G, c⟩ := Z.ex
  obtain ⟨fd, F⟩ := c.d.def_ 17 (d := d17) rfl
  exact ⟨_, fd, Z.f_are_gates, F, FunD.bindsN F fun _ _ _ _ _ _ us hl => match us, hl with | [_, _], _ => rfl⟩
theorem Zf.d_18 (Z : Zf K mg) : ∃ fd, FnAt K "__init__" "Net.__init__" s18 (He.ma K (He.ga K "Net") "__init__") fd ∧ L2.Binds K fd ["self", "ins", "first", "gates", "nexts", "outs"] [] := by
  obtain ⟨h, X, G, c⟩ := Z.ex
  obtain ⟨fd, F⟩ := c.d.def_ 18 (d := d18) rfl
  exact ⟨fd, F, FunD.bindsN F fun _ _ _ _ _ _ us hl => match us, hl with | [_, _, _, _, _, _], _ => rfl⟩
theorem Zf.d_19 (Z : Zf K mg) : EqvIs K (He.ga K) "Net" "Net.__eq__" s19 ["self", "other"] := by
  obtain ⟨h, X, G, c⟩ := Z.ex
  obtain ⟨fd, F⟩ := c.d.def_ 19 (d := d19) rfl
  obtain ⟨h1, h2⟩ := eqvB_ok (Bool.and_eq_true_iff.mp (Bool.and_eq_true_iff.mp (Bool.and_eq_true_iff.mp (Bool.and_eq_true_iff.mp (Bool.and_eq_true_iff.mp Z.more).2).2).2).2).2
  exact ⟨_, fd, h1, h2, F, FunD.bindsN F fun _ _ _ _ _ _ us hl => match us, hl with | [_, _], _ => rfl⟩
theorem Zf.d_20 (Z : Zf K mg) : DefIs K mg "need_net" s20 ["net"] := by
  obtain ⟨h, X, G, c⟩ := Z.ex
  obtain ⟨fd, F⟩ := c.d.def_ 20 (d := d20) rfl
  exact ⟨_, fd, Z.f_need_net, F, FunD.bindsN F fun _ _ _ _ _ _ us hl => match us, hl with | [_], _ => rfl⟩
theorem Zf.d_21 (Z : Zf K mg) : DefIs K mg "has_place" s21 ["net", "value"] := by
  obtain ⟨h, X, G, c⟩ := Z.ex
  obtain ⟨fd, F⟩ := c.d.def_ 21 (d := d21) rfl
  exact ⟨_, fd, Z.f_has_place, F, FunD.bindsN F fun _ _ _ _ _ _ us hl => match us, hl with | [_, _], _ => rfl⟩
theorem Zf.d_22 (Z : Zf K mg) : DefIs K mg "gate_sign" s22 ["kind", "signs"] := by
  obtain ⟨h, X, G, c⟩ := Z.ex
  obtain ⟨fd, F⟩ := c.d.def_ 22 (d := d22) rfl
  exact ⟨_, fd, Z.f_gate_sign, F, FunD.bindsN F fun _ _ _ _ _ _ us hl => match us, hl with | [_, _], _ => rfl⟩
theorem Zf.d_23 (Z : Zf K mg) : DefIs K mg "step" s23 ["net", "now", "given", "hurts"] := by
  obtain ⟨h, X, G, c⟩ := Z.ex
  obtain ⟨fd, F⟩ := c.d.def_ 23 (d := d23) rfl
  exact ⟨_, fd, Z.f_step, F, FunD.bindsN F fun _ _ _ _ _ _ us hl => match us, hl with | [_, _, _, _], _ => rfl⟩
theorem Zf.d_24 (Z : Zf K mg) : DefIs K mg "run_on" s24 ["net", "words", "hurts"] := by
  obtain ⟨h, X, G, c⟩ := Z.ex
  obtain ⟨fd, F⟩ := c.d.def_ 24 (d := d24) rfl
  exact ⟨_, fd, Z.f_run_on, F, FunD.bindsN F fun _ _ _ _ _ _ us hl => match us, hl with | [_, _, _], _ => rfl⟩
theorem Zf.d_25 (Z : Zf K mg) : DefIs K mg "is_sign" s25 ["value"] := by
  obtain ⟨h, X, G, c⟩ := Z.ex
  obtain ⟨fd, F⟩ := c.d.def_ 25 (d := d25) rfl
  exact ⟨_, fd, Z.f_is_sign, F, FunD.bindsN F fun _ _ _ _ _ _ us hl => match us, hl with | [_], _ => rfl⟩
theorem Zf.d_26 (Z : Zf K mg) : DefIs K mg "signs_in" s26 ["net", "value"] := by
  obtain ⟨h, X, G, c⟩ := Z.ex
  obtain ⟨fd, F⟩ := c.d.def_ 26 (d := d26) rfl
  exact ⟨_, fd, Z.f_signs_in, F, FunD.bindsN F fun _ _ _ _ _ _ us hl => match us, hl with | [_, _], _ => rfl⟩
theorem Zf.d_27 (Z : Zf K mg) : DefIs K mg "hurts_in" s27 ["net", "value", "count"] := by
  obtain ⟨h, X, G, c⟩ := Z.ex
  obtain ⟨fd, F⟩ := c.d.def_ 27 (d := d27) rfl
  exact ⟨_, fd, Z.f_hurts_in, F, FunD.bindsN F fun _ _ _ _ _ _ us hl => match us, hl with | [_, _, _], _ => rfl⟩
theorem Zf.d_28 (Z : Zf K mg) : DefIs K mg "need_words" s28 ["net", "words", "least"] := by
  obtain ⟨h, X, G, c⟩ := Z.ex
  obtain ⟨fd, F⟩ := c.d.def_ 28 (d := d28) rfl
  exact ⟨_, fd, Z.f_need_words, F, FunD.bindsN F fun _ _ _ _ _ _ us hl => match us, hl with | [_, _, _], _ => rfl⟩
theorem Zf.d_29 (Z : Zf K mg) : DefIs K mg "need_hurts" s29 ["net", "hurts", "count"] := by
  obtain ⟨h, X, G, c⟩ := Z.ex
  obtain ⟨fd, F⟩ := c.d.def_ 29 (d := d29) rfl
  exact ⟨_, fd, Z.f_need_hurts, F, FunD.bindsN F fun _ _ _ _ _ _ us hl => match us, hl with | [_, _, _], _ => rfl⟩
theorem Zf.d_30 (Z : Zf K mg) : DefIs K mg "run" s30 ["net", "words", "hurts"] := by
  obtain ⟨h, X, G, c⟩ := Z.ex
  obtain ⟨fd, F⟩ := c.d.def_ 30 (d := d30) rfl
  exact ⟨_, fd, Z.f_run, F, FunD.bindsN F fun _ _ _ _ _ _ us hl => match us, hl with | [_, _, _], _ => rfl⟩
theorem Zf.d_31 (Z : Zf K mg) : DefIs K mg "latch_behind" s31 ["net", "words", "hurts"] := by
  obtain ⟨h, X, G, c⟩ := Z.ex
  obtain ⟨fd, F⟩ := c.d.def_ 31 (d := d31) rfl
  exact ⟨_, fd, Z.f_latch_behind, F, FunD.bindsN F fun _ _ _ _ _ _ us hl => match us, hl with | [_, _, _], _ => rfl⟩
theorem Zf.d_32 (Z : Zf K mg) : DefIs K mg "need_sign" s32 ["sign"] := by
  obtain ⟨h, X, G, c⟩ := Z.ex
  obtain ⟨fd, F⟩ := c.d.def_ 32 (d := d32) rfl
  exact ⟨_, fd, Z.f_need_sign, F, FunD.bindsN F fun _ _ _ _ _ _ us hl => match us, hl with | [_], _ => rfl⟩
theorem Zf.d_33 (Z : Zf K mg) : DefIs K mg "is_plain" s33 ["net"] := by
  obtain ⟨h, X, G, c⟩ := Z.ex
  obtain ⟨fd, F⟩ := c.d.def_ 33 (d := d33) rfl
  exact ⟨_, fd, Z.f_is_plain, F, FunD.bindsN F fun _ _ _ _ _ _ us hl => match us, hl with | [_], _ => rfl⟩
theorem Zf.d_34 (Z : Zf K mg) : DefIs K mg "without_nots" s34 ["net", "sign"] := by
  obtain ⟨h, X, G, c⟩ := Z.ex
  obtain ⟨fd, F⟩ := c.d.def_ 34 (d := d34) rfl
  exact ⟨_, fd, Z.f_without_nots, F, FunD.bindsN F fun _ _ _ _ _ _ us hl => match us, hl with | [_, _], _ => rfl⟩
theorem Zf.d_35 (Z : Zf K mg) : DefIs K mg "top" s35 ["net"] := by
  obtain ⟨h, X, G, c⟩ := Z.ex
  obtain ⟨fd, F⟩ := c.d.def_ 35 (d := d35) rfl
  exact ⟨_, fd, Z.f_top, F, FunD.bindsN F fun _ _ _ _ _ _ us hl => match us, hl with | [_], _ => rfl⟩
theorem Zf.d_36 (Z : Zf K mg) : DefIs K mg "bottom" s36 ["net"] := by
  obtain ⟨h, X, G, c⟩ := Z.ex
  obtain ⟨fd, F⟩ := c.d.def_ 36 (d := d36) rfl
  exact ⟨_, fd, Z.f_bottom, F, FunD.bindsN F fun _ _ _ _ _ _ us hl => match us, hl with | [_], _ => rfl⟩
theorem Zf.d_37 (Z : Zf K mg) : DefIs K mg "last_words" s37 ["net", "words"] := by
  obtain ⟨h, X, G, c⟩ := Z.ex
  obtain ⟨fd, F⟩ := c.d.def_ 37 (d := d37) rfl
  exact ⟨_, fd, Z.f_last_words, F, FunD.bindsN F fun _ _ _ _ _ _ us hl => match us, hl with | [_, _], _ => rfl⟩
theorem Zf.d_38 (Z : Zf K mg) : DefIs K mg "extreme" s38 ["net", "words", "sign"] := by
  obtain ⟨h, X, G, c⟩ := Z.ex
  obtain ⟨fd, F⟩ := c.d.def_ 38 (d := d38) rfl
  exact ⟨_, fd, Z.f_extreme, F, FunD.bindsN F fun _ _ _ _ _ _ us hl => match us, hl with | [_, _, _], _ => rfl⟩
theorem Zf.d_39 (Z : Zf K mg) : DefIs K mg "_law_cell" s39 ["script", "k"] := by
  obtain ⟨h, X, G, c⟩ := Z.ex
  obtain ⟨fd, F⟩ := c.d.def_ 39 (d := d39) rfl
  exact ⟨_, fd, Z.f__law_cell, F, FunD.bindsN F fun _ _ _ _ _ _ us hl => match us, hl with | [_, _], _ => rfl⟩
theorem Zf.d_40 (Z : Zf K mg) : DefIs K mg "_law_box" s40 ["great"] := by
  obtain ⟨h, X, G, c⟩ := Z.ex
  obtain ⟨fd, F⟩ := c.d.def_ 40 (d := d40) rfl
  exact ⟨_, fd, Z.f__law_box, F, FunD.bindsN F fun _ _ _ _ _ _ us hl => match us, hl with | [_], _ => rfl⟩
theorem Zf.d_41 (Z : Zf K mg) : DefIs K mg "_law_take" s41 ["box", "many"] := by
  obtain ⟨h, X, G, c⟩ := Z.ex
  obtain ⟨fd, F⟩ := c.d.def_ 41 (d := d41) rfl
  exact ⟨_, fd, Z.f__law_take, F, FunD.bindsN F fun _ _ _ _ _ _ us hl => match us, hl with | [_, _], _ => rfl⟩
theorem Zf.d_42 (Z : Zf K mg) : DefIs K mg "_law_same" s42 ["told", "due"] := by
  obtain ⟨h, X, G, c⟩ := Z.ex
  obtain ⟨fd, F⟩ := c.d.def_ 42 (d := d42) rfl
  exact ⟨_, fd, Z.f__law_same, F, FunD.bindsN F fun _ _ _ _ _ _ us hl => match us, hl with | [_, _], _ => rfl⟩
theorem Zf.d_43 (Z : Zf K mg) : DefIs K mg "_law_mixed" s43 ["box", "items"] := by
  obtain ⟨h, X, G, c⟩ := Z.ex
  obtain ⟨fd, F⟩ := c.d.def_ 43 (d := d43) rfl
  exact ⟨_, fd, Z.f__law_mixed, F, FunD.bindsN F fun _ _ _ _ _ _ us hl => match us, hl with | [_, _], _ => rfl⟩
theorem Zf.d_44 (Z : Zf K mg) : DefIs K mg "_law_word" s44 ["box", "many"] := by
  obtain ⟨h, X, G, c⟩ := Z.ex
  obtain ⟨fd, F⟩ := c.d.def_ 44 (d := d44) rfl
  exact ⟨_, fd, Z.f__law_word, F, FunD.bindsN F fun _ _ _ _ _ _ us hl => match us, hl with | [_, _], _ => rfl⟩
theorem Zf.d_45 (Z : Zf K mg) : DefIs K mg "_law_in" s45 ["one", "other"] := by
  obtain ⟨h, X, G, c⟩ := Z.ex
  obtain ⟨fd, F⟩ := c.d.def_ 45 (d := d45) rfl
  exact ⟨_, fd, Z.f__law_in, F, FunD.bindsN F fun _ _ _ _ _ _ us hl => match us, hl with | [_, _], _ => rfl⟩
theorem Zf.d_46 (Z : Zf K mg) : DefIs K mg "_law_drawn" s46 ["box", "ins", "latches", "gates", "outs", "nots"] := by
  obtain ⟨h, X, G, c⟩ := Z.ex
  obtain ⟨fd, F⟩ := c.d.def_ 46 (d := d46) rfl
  exact ⟨_, fd, Z.f__law_drawn, F, FunD.bindsN F fun _ _ _ _ _ _ us hl => match us, hl with | [_, _, _, _, _, _], _ => rfl⟩
theorem Zf.d_47 (Z : Zf K mg) : DefIs K mg "_law_made" s47 ["net"] := by
  obtain ⟨h, X, G, c⟩ := Z.ex
  obtain ⟨fd, F⟩ := c.d.def_ 47 (d := d47) rfl
  exact ⟨_, fd, Z.f__law_made, F, FunD.bindsN F fun _ _ _ _ _ _ us hl => match us, hl with | [_], _ => rfl⟩
theorem Zf.d_48 (Z : Zf K mg) : DefIs K mg "_law_branches" s48 ["net"] := by
  obtain ⟨h, X, G, c⟩ := Z.ex
  obtain ⟨fd, F⟩ := c.d.def_ 48 (d := d48) rfl
  exact ⟨_, fd, Z.f__law_branches, F, FunD.bindsN F fun _ _ _ _ _ _ us hl => match us, hl with | [_], _ => rfl⟩
theorem Zf.d_49 (Z : Zf K mg) : DefIs K mg "_law_places" s49 ["net"] := by
  obtain ⟨h, X, G, c⟩ := Z.ex
  obtain ⟨fd, F⟩ := c.d.def_ 49 (d := d49) rfl
  exact ⟨_, fd, Z.f__law_places, F, FunD.bindsN F fun _ _ _ _ _ _ us hl => match us, hl with | [_], _ => rfl⟩
theorem Zf.d_50 (Z : Zf K mg) : DefIs K mg "_law_beat" s50 ["net", "now", "given", "hurts"] := by
  obtain ⟨h, X, G, c⟩ := Z.ex
  obtain ⟨fd, F⟩ := c.d.def_ 50 (d := d50) rfl
  exact ⟨_, fd, Z.f__law_beat, F, FunD.bindsN F fun _ _ _ _ _ _ us hl => match us, hl with | [_, _, _, _], _ => rfl⟩
theorem Zf.d_51 (Z : Zf K mg) : DefIs K mg "_law_run" s51 ["net", "words", "hurts"] := by
  obtain ⟨h, X, G, c⟩ := Z.ex
  obtain ⟨fd, F⟩ := c.d.def_ 51 (d := d51) rfl
  exact ⟨_, fd, Z.f__law_run, F, FunD.bindsN F fun _ _ _ _ _ _ us hl => match us, hl with | [_, _, _], _ => rfl⟩
theorem Zf.d_52 (Z : Zf K mg) : DefIs K mg "_law_end" s52 ["net", "sign"] := by
  obtain ⟨h, X, G, c⟩ := Z.ex
  obtain ⟨fd, F⟩ := c.d.def_ 52 (d := d52) rfl
  exact ⟨_, fd, Z.f__law_end, F, FunD.bindsN F fun _ _ _ _ _ _ us hl => match us, hl with | [_, _], _ => rfl⟩
theorem Zf.d_53 (Z : Zf K mg) : DefIs K mg "_law_asked" s53 ["which", "args", "by_name"] := by
  obtain ⟨h, X, G, c⟩ := Z.ex
  obtain ⟨fd, F⟩ := c.d.def_ 53 (d := d53) rfl
  exact ⟨_, fd, Z.f__law_asked, F, FunD.bindsN F fun _ _ _ _ _ _ us hl => match us, hl with | [_, _, _], _ => rfl⟩
theorem Zf.d_54 (Z : Zf K mg) : DefIs K mg "_law_parts" s54 ["told"] := by
  obtain ⟨h, X, G, c⟩ := Z.ex
  obtain ⟨fd, F⟩ := c.d.def_ 54 (d := d54) rfl
  exact ⟨_, fd, Z.f__law_parts, F, FunD.bindsN F fun _ _ _ _ _ _ us hl => match us, hl with | [_], _ => rfl⟩
theorem Zf.d_55 (Z : Zf K mg) : DefIs K mg "_law_ends_right" s55 ["net", "made", "by_name"] := by
  obtain ⟨h, X, G, c⟩ := Z.ex
  obtain ⟨fd, F⟩ := c.d.def_ 55 (d := d55) rfl
  exact ⟨_, fd, Z.f__law_ends_right, F, FunD.bindsN F fun _ _ _ _ _ _ us hl => match us, hl with | [_, _, _], _ => rfl⟩
theorem Zf.d_56 (Z : Zf K mg) : DefIs K mg "_law_extremes_right" s56 ["box", "net", "made", "by_name"] := by
  obtain ⟨h, X, G, c⟩ := Z.ex
  obtain ⟨fd, F⟩ := c.d.def_ 56 (d := d56) rfl
  exact ⟨_, fd, Z.f__law_extremes_right, F, FunD.bindsN F fun _ _ _ _ _ _ us hl => match us, hl with | [_, _, _, _], _ => rfl⟩
theorem Zf.d_57 (Z : Zf K mg) : DefIs K mg "_law_hurt_right" s57 ["box", "net", "made"] := by
  obtain ⟨h, X, G, c⟩ := Z.ex
  obtain ⟨fd, F⟩ := c.d.def_ 57 (d := d57) rfl
  exact ⟨_, fd, Z.f__law_hurt_right, F, FunD.bindsN F fun _ _ _ _ _ _ us hl => match us, hl with | [_, _, _], _ => rfl⟩
theorem Zf.d_58 (Z : Zf K mg) : DefIs K mg "_law_refused" s58 ["value", "which", "args", "due", "by_name"] := by
  obtain ⟨h, X, G, c⟩ := Z.ex
  obtain ⟨fd, F⟩ := c.d.def_ 58 (d := d58) rfl
  exact ⟨_, fd, Z.f__law_refused, F, FunD.bindsN F fun _ _ _ _ _ _ us hl => match us, hl with | [_, _, _, _, _], _ => rfl⟩
theorem Zf.d_59 (Z : Zf K mg) : DefIs K mg "_law_refused_right" s59 ["box", "net", "made", "by_name"] := by
  obtain ⟨h, X, G, c⟩ := Z.ex
  obtain ⟨fd, F⟩ := c.d.def_ 59 (d := d59) rfl
  exact ⟨_, fd, Z.f__law_refused_right, F, FunD.bindsN F fun _ _ _ _ _ _ us hl => match us, hl with | [_, _, _, _], _ => rfl⟩
theorem Zf.d_60 (Z : Zf K mg) : DefIs K mg "law" s60 ["script"] := by
  obtain ⟨h, X, G, c⟩ := Z.ex
  obtain ⟨fd, F⟩ := c.d.def_ 60 (d := d60) rfl
  exact ⟨_, fd, Z.f_law, F, FunD.bindsN F fun _ _ _ _ _ _ us hl => match us, hl with | [_], _ => rfl⟩
theorem sc_InvalidWord_init : FnScope ["self", "given"] ["self", "given"] (defScope s0) := ⟨rfl, rfl, rfl, by decide +kernel, rfl, by decide +kernel, by decide +kernel⟩
theorem xcls_InvalidWord (Z : Zf K mg) : XCls P w K mg base FLD (He.ga K "InvalidWord") := by
  have hx : ("InvalidWord" : Str) ∈ XS := by decide
  obtain ⟨fd, F, hb⟩ := Z.d_0
  obtain ⟨h1, h2, h3, h4, h5⟩ := Z.exc hx
  exact ⟨h1, h2, _, fd, _, h3, h4, xinit_ok F sc_InvalidWord_init rfl rfl (fun cdv A outer s H E => pss_cons (ps_expr (pe_baseinit rfl Z.c_DarkError Z.base_DarkError (pa_cons (pv 0) (pa_cons pe_str pa_nil)))) (pss_one (ps_ost (pv 0) (pv 1)))), hb⟩
theorem sc_InvalidWords_init : FnScope ["self", "given"] ["self", "given"] (defScope s1) := ⟨rfl, rfl, rfl, by decide +kernel, rfl, by decide +kernel, by decide +kernel⟩
theorem xcls_InvalidWords (Z : Zf K mg) : XCls P w K mg base FLD (He.ga K "InvalidWords") := by
  have hx : ("InvalidWords" : Str) ∈ XS := by decide
  obtain ⟨fd, F, hb⟩ := Z.d_1
  obtain ⟨h1, h2, h3, h4, h5⟩ := Z.exc hx
  exact ⟨h1, h2, _, fd, _, h3, h4, xinit_ok F sc_InvalidWords_init rfl rfl (fun cdv A outer s H E => pss_cons (ps_expr (pe_baseinit rfl Z.c_DarkError Z.base_DarkError (pa_cons (pv 0) (pa_cons pe_str pa_nil)))) (pss_one (ps_ost (pv 0) (pv 1)))), hb⟩
theorem sc_InvalidCount_init : FnScope ["self", "given"] ["self", "given"] (defScope s2) := ⟨rfl, rfl, rfl, by decide +kernel, rfl, by decide +kernel, by decide +kernel⟩
theorem xcls_InvalidCount (Z : Zf K mg) : XCls P w K mg base FLD (He.ga K "InvalidCount") := by
  have hx : ("InvalidCount" : Str) ∈ XS := by decide
  obtain ⟨fd, F, hb⟩ := Z.d_2
  obtain ⟨h1, h2, h3, h4, h5⟩ := Z.exc hx
  exact ⟨h1, h2, _, fd, _, h3, h4, xinit_ok F sc_InvalidCount_init rfl rfl (fun cdv A outer s H E => pss_cons (ps_expr (pe_baseinit rfl Z.c_DarkError Z.base_DarkError (pa_cons (pv 0) (pa_cons pe_str pa_nil)))) (pss_one (ps_ost (pv 0) (pv 1)))), hb⟩
theorem sc_InvalidNet_init : FnScope ["self", "given"] ["self", "given"] (defScope s3) := ⟨rfl, rfl, rfl, by decide +kernel, rfl, by decide +kernel, by decide +kernel⟩
theorem xcls_InvalidNet (Z : Zf K mg) : XCls P w K mg base FLD (He.ga K "InvalidNet") := by
  have hx : ("InvalidNet" : Str) ∈ XS := by decide
  obtain ⟨fd, F, hb⟩ := Z.d_3
  obtain ⟨h1, h2, h3, h4, h5⟩ := Z.exc hx
  exact ⟨h1, h2, _, fd, _, h3, h4, xinit_ok F sc_InvalidNet_init rfl rfl (fun cdv A outer s H E => pss_cons (ps_expr (pe_baseinit rfl Z.c_DarkError Z.base_DarkError (pa_cons (pv 0) (pa_cons pe_str pa_nil)))) (pss_one (ps_ost (pv 0) (pv 1)))), hb⟩
theorem sc_InvalidGates_init : FnScope ["self", "given"] ["self", "given"] (defScope s4) := ⟨rfl, rfl, rfl, by decide +kernel, rfl, by decide +kernel, by decide +kernel⟩
theorem xcls_InvalidGates (Z : Zf K mg) : XCls P w K mg base FLD (He.ga K "InvalidGates") := by
  have hx : ("InvalidGates" : Str) ∈ XS := by decide
  obtain ⟨fd, F, hb⟩ := Z.d_4
  obtain ⟨h1, h2, h3, h4, h5⟩ := Z.exc hx
  exact ⟨h1, h2, _, fd, _, h3, h4, xinit_ok F sc_InvalidGates_init rfl rfl (fun cdv A outer s H E => pss_cons (ps_expr (pe_baseinit rfl Z.c_DarkError Z.base_DarkError (pa_cons (pv 0) (pa_cons pe_str pa_nil)))) (pss_one (ps_ost (pv 0) (pv 1)))), hb⟩
theorem sc_InvalidWires_init : FnScope ["self", "given"] ["self", "given"] (defScope s5) := ⟨rfl, rfl, rfl, by decide +kernel, rfl, by decide +kernel, by decide +kernel⟩
theorem xcls_InvalidWires (Z : Zf K mg) : XCls P w K mg base FLD (He.ga K "InvalidWires") := by
  have hx : ("InvalidWires" : Str) ∈ XS := by decide
  obtain ⟨fd, F, hb⟩ := Z.d_5
  obtain ⟨h1, h2, h3, h4, h5⟩ := Z.exc hx
  exact ⟨h1, h2, _, fd, _, h3, h4, xinit_ok F sc_InvalidWires_init rfl rfl (fun cdv A outer s H E => pss_cons (ps_expr (pe_baseinit rfl Z.c_DarkError Z.base_DarkError (pa_cons (pv 0) (pa_cons pe_str pa_nil)))) (pss_one (ps_ost (pv 0) (pv 1)))), hb⟩
theorem sc_InvalidHurts_init : FnScope ["self", "given"] ["self", "given"] (defScope s6) := ⟨rfl, rfl, rfl, by decide +kernel, rfl, by decide +kernel, by decide +kernel⟩
theorem xcls_InvalidHurts (Z : Zf K mg) : XCls P w K mg base FLD (He.ga K "InvalidHurts") := by
  have hx : ("InvalidHurts" : Str) ∈ XS := by decide
  obtain ⟨fd, F, hb⟩ := Z.d_6
  obtain ⟨h1, h2, h3, h4, h5⟩ := Z.exc hx
  exact ⟨h1, h2, _, fd, _, h3, h4, xinit_ok F sc_InvalidHurts_init rfl rfl (fun cdv A outer s H E => pss_cons (ps_expr (pe_baseinit rfl Z.c_DarkError Z.base_DarkError (pa_cons (pv 0) (pa_cons pe_str pa_nil)))) (pss_one (ps_ost (pv 0) (pv 1)))), hb⟩
theorem sc_InvalidSign_init : FnScope ["self", "given"] ["self", "given"] (defScope s7) := ⟨rfl, rfl, rfl, by decide +kernel, rfl, by decide +kernel, by decide +kernel⟩
theorem xcls_InvalidSign (Z : Zf K mg) : XCls P w K mg base FLD (He.ga K "InvalidSign") := by
  have hx : ("InvalidSign" : Str) ∈ XS := by decide
  obtain ⟨fd, F, hb⟩ := Z.d_7
  obtain ⟨h1, h2, h3, h4, h5⟩ := Z.exc hx
  exact ⟨h1, h2, _, fd, _, h3, h4, xinit_ok F sc_InvalidSign_init rfl rfl (fun cdv A outer s H E => pss_cons (ps_expr (pe_baseinit rfl Z.c_DarkError Z.base_DarkError (pa_cons (pv 0) (pa_cons pe_str pa_nil)))) (pss_one (ps_ost (pv 0) (pv 1)))), hb⟩
theorem kw_is_plain_net : KwFits s33 "is_plain" ["net"] ["net"] [0] := fun _ _ _ _ _ _ ws hl => match ws, hl with | [_], _ => rfl
theorem kw_top_net : KwFits s35 "top" ["net"] ["net"] [0] := fun _ _ _ _ _ _ ws hl => match ws, hl with | [_], _ => rfl
theorem kw_bottom_net : KwFits s36 "bottom" ["net"] ["net"] [0] := fun _ _ _ _ _ _ ws hl => match ws, hl with | [_], _ => rfl
theorem kw_extreme_sign_words_net : KwFits s38 "extreme" ["net", "words", "sign"] ["sign", "words", "net"] [2, 1, 0] := fun _ _ _ _ _ _ ws hl => match ws, hl with | [_, _, _], _ => rfl
theorem sc_is_integer : FnScope ["value"] ["value"] (defScope s8) := ⟨rfl, rfl, rfl, by decide +kernel, rfl, by decide +kernel, by decide +kernel⟩
def b_is_integer : FS := fRet (fAnd (f1 (isiD CS ["int"]) (fVar 0)) (fNotT (fTr (f1 (isiD CS ["bool"]) (fVar 0)))))
def m_is_integer : Mean := fnM false 1 1 b_is_integer
theorem ok_is_integer (Z : Zf K mg) : DefOk P w K mg base (He.ga K) 1 "is_integer" s8 ["value"] m_is_integer :=
  def_ok (k := 0) (fb := b_is_integer) false 1 1 rfl rfl Z.d_8 sc_is_integer fun f cdv A outer s H E hr =>
    dss_one (ds_ret (de_and (de_isi Z.tab (T := "int") (by decide) rfl Z.b_isinstance (de_var (i := 0)) rfl Z.b_int boot_int) (de_one (de_notT (de_isi Z.tab (T := "bool") (by decide) rfl Z.b_isinstance (de_var (i := 0)) rfl Z.b_bool boot_bool)))))
theorem sc_is_between : FnScope ["value", "low", "high"] ["value", "low", "high"] (defScope s9) := ⟨rfl, rfl, rfl, by decide +kernel, rfl, by decide +kernel, by decide +kernel⟩
def b_is_between : FS := fRet (fAnd (fApp m_is_integer (aCons (fVar 0) aNil)) (fChain (cmpI (fun i j => decide (i ≤ j))) (cmpI (fun i j => decide (i ≤ j))) (fVar 1) (fVar 0) (fVar 2)))
def m_is_between : Mean := fnM false 3 3 b_is_between
theorem ok_is_between (Z : Zf K mg) : DefOk P w K mg base (He.ga K) 2 "is_between" s9 ["value", "low", "high"] m_is_between :=
  def_ok (k := 1) (fb := b_is_between) false 3 3 rfl rfl Z.d_9 sc_is_between fun f cdv A outer s H E hr =>
    dss_one (ds_ret (de_and (de_callX (ok_is_integer Z) tkF hr (da_cons (de_var (i := 0)) da_nil)) (de_one (de_chain chLe chLe (de_var (i := 1)) (de_var (i := 0)) (de_var (i := 2))))))
theorem sc_is_index : FnScope ["value", "length"] ["value", "length"] (defScope s10) := ⟨rfl, rfl, rfl, by decide +kernel, rfl, by decide +kernel, by decide +kernel⟩
def b_is_index : FS := fRet (fApp m_is_between (aCons (fVar 0) (aCons (fC (.int 0)) (aCons (fBin opSub (fVar 1) (fC (.int 1))) aNil))))
def m_is_index : Mean := fnM false 2 2 b_is_index
theorem ok_is_index (Z : Zf K mg) : DefOk P w K mg base (He.ga K) 3 "is_index" s10 ["value", "length"] m_is_index :=
  def_ok (k := 2) (fb := b_is_index) false 2 2 rfl rfl Z.d_10 sc_is_index fun f cdv A outer s H E hr =>
    dss_one (ds_ret (de_callX (ok_is_between Z) tkF hr (da_cons (de_var (i := 0)) (da_cons de_int (da_cons (de_bin suits_sub (de_var (i := 1)) de_int) da_nil)))))
theorem sc_is_list : FnScope ["value"] ["value"] (defScope s11) := ⟨rfl, rfl, rfl, by decide +kernel, rfl, by decide +kernel, by decide +kernel⟩
def b_is_list : FS := fRet (f1 (isiD CS ["list", "tuple"]) (fVar 0))
def m_is_list : Mean := fnM false 1 1 b_is_list
theorem ok_is_list (Z : Zf K mg) : DefOk P w K mg base (He.ga K) 1 "is_list" s11 ["value"] m_is_list :=
  def_ok (k := 0) (fb := b_is_list) false 1 1 rfl rfl Z.d_11 sc_is_list fun f cdv A outer s H E hr =>
    dss_one (ds_ret (de_isi2 Z.tab (T := "list") (U := "tuple") (by decide) (by decide) rfl Z.b_isinstance (de_var (i := 0)) rfl Z.b_list boot_list rfl Z.b_tuple boot_tuple))
theorem sc_is_tuple : FnScope ["value", "length"] ["value", "length"] (defScope s12) := ⟨rfl, rfl, rfl, by decide +kernel, rfl, by decide +kernel, by decide +kernel⟩
def b_is_tuple : FS := fRet (fAnd (f1 (isiD CS ["tuple"]) (fVar 0)) (fBin opEq (fCall (op1 opLen) (aCons (fVar 0) aNil)) (fVar 1)))
def m_is_tuple : Mean := fnM false 2 2 b_is_tuple
theorem ok_is_tuple (Z : Zf K mg) : DefOk P w K mg base (He.ga K) 1 "is_tuple" s12 ["value", "length"] m_is_tuple :=
  def_ok (k := 0) (fb := b_is_tuple) false 2 2 rfl rfl Z.d_12 sc_is_tuple fun f cdv A outer s H E hr =>
    dss_one (ds_ret (de_and (de_isi Z.tab (T := "tuple") (by decide) rfl Z.b_isinstance (de_var (i := 0)) rfl Z.b_tuple boot_tuple) (de_one (de_cmp (suits_eq hr.units) (de_callB suits_len rfl Z.b_len boot_len (da_cons (de_var (i := 0)) da_nil)) (de_var (i := 1)) (nomark _)))))
theorem sc_is_word : FnScope ["value", "sign"] ["value"] (defScope s13) := ⟨rfl, rfl, rfl, by decide +kernel, rfl, by decide +kernel, by decide +kernel⟩
def b_is_word : FS := fRet (fAnd (f1 (isiD CS ["str"]) (fVar 0)) (fAnd (fBin opLe (fCall (op1 opLen) (aCons (fVar 0) aNil)) (fC (.int 24))) (fCall (op1 opAll) (aCons (fLc (fItr (fVar 0)) [1] (tName 1) fYes (fBin opIn (fVar 1) (fC (.str "01")))) aNil))))
def m_is_word : Mean := fnM false 1 2 b_is_word
theorem ok_is_word (Z : Zf K mg) : DefOk P w K mg base (He.ga K) 1 "is_word" s13 ["value"] m_is_word :=
  def_ok (k := 0) (fb := b_is_word) false 1 2 rfl rfl Z.d_13 sc_is_word fun f cdv A outer s H E hr =>
    dss_one (ds_ret (de_and (de_isi Z.tab (T := "str") (by decide) rfl Z.b_isinstance (de_var (i := 0)) rfl Z.b_str boot_str) (de_and (de_cmp suits_le (de_callB suits_len rfl Z.b_len boot_len (da_cons (de_var (i := 0)) da_nil)) (de_gint rfl Z.g_MOST_SIGNS) (by rfl)) (de_one (de_callB (suits_all rfl) rfl Z.b_all boot_all (da_cons (de_lc [("sign", 1)] rfl sc_is_word.nd (di_seq (de_var (i := 0))) (blkOk_by (by kernel_rfl)) (fun s H C cl fp => dg_name (i := 1) sc_is_word.nd) (fun s H C cl fp => dts_nil) (fun s H C cl fp => de_in hr.u65 (de_var (i := 1)) de_str)) da_nil))))))
theorem sc_is_word_of : FnScope ["value", "length"] ["value", "length"] (defScope s14) := ⟨rfl, rfl, rfl, by decide +kernel, rfl, by decide +kernel, by decide +kernel⟩
def b_is_word_of : FS := fRet (fAnd (fApp m_is_word (aCons (fVar 0) aNil)) (fBin opEq (fCall (op1 opLen) (aCons (fVar 0) aNil)) (fVar 1)))
def m_is_word_of : Mean := fnM false 2 2 b_is_word_of
theorem ok_is_word_of (Z : Zf K mg) : DefOk P w K mg base (He.ga K) 2 "is_word_of" s14 ["value", "length"] m_is_word_of :=
  def_ok (k := 1) (fb := b_is_word_of) false 2 2 rfl rfl Z.d_14 sc_is_word_of fun f cdv A outer s H E hr =>
    dss_one (ds_ret (de_and (de_callX (ok_is_word Z) tkF hr (da_cons (de_var (i := 0)) da_nil)) (de_one (de_cmp (suits_eq hr.units) (de_callB suits_len rfl Z.b_len boot_len (da_cons (de_var (i := 0)) da_nil)) (de_var (i := 1)) (nomark _)))))
theorem sc_are_wires : FnScope ["value", "many", "wire"] ["value", "many"] (defScope s15) := ⟨rfl, rfl, rfl, by decide +kernel, rfl, by decide +kernel, by decide +kernel⟩
def b_are_wires : FS := fRet (fAnd (f1 (isiD CS ["tuple"]) (fVar 0)) (fCall (op1 opAll) (aCons (fLc (fItr (fVar 0)) [2] (tName 2) fYes (fApp m_is_index (aCons (fVar 2) (aCons (fVar 1) aNil)))) aNil)))
def m_are_wires : Mean := fnM false 2 3 b_are_wires
theorem ok_are_wires (Z : Zf K mg) : DefOk P w K mg base (He.ga K) 4 "are_wires" s15 ["value", "many"] m_are_wires :=
  def_ok (k := 3) (fb := b_are_wires) false 2 3 rfl rfl Z.d_15 sc_are_wires fun f cdv A outer s H E hr =>
    dss_one (ds_ret (de_and (de_isi Z.tab (T := "tuple") (by decide) rfl Z.b_isinstance (de_var (i := 0)) rfl Z.b_tuple boot_tuple) (de_one (de_callB (suits_all rfl) rfl Z.b_all boot_all (da_cons (de_lc [("wire", 2)] rfl sc_are_wires.nd (di_seq (de_var (i := 0))) (blkOk_by (by kernel_rfl)) (fun s H C cl fp => dg_name (i := 2) sc_are_wires.nd) (fun s H C cl fp => dts_nil) (fun s H C cl fp => de_callX (ok_is_index Z) takes0 hr (da_cons (de_var (i := 2)) (da_cons (de_var (i := 1)) da_nil)))) da_nil)))))
theorem sc_is_gate : FnScope ["value", "own", "kind", "wires"] ["value", "own"] (defScope s16) := ⟨rfl, rfl, rfl, by decide +kernel, rfl, by decide +kernel, by decide +kernel⟩
def b_is_gate : FS := fSeq (fIfS (tfOr (tfNot (fTr (fApp m_is_tuple (aCons (fVar 0) (aCons (fC (.int 2)) aNil))))) (tfOr (tfNot (fTr (f1 (isiD CS ["str"]) (fBin opIx (fVar 0) (fC (.int 0)))))) (tfNot (fTr (fApp m_are_wires (aCons (fBin opIx (fVar 0) (fC (.int 1))) (aCons (fVar 1) aNil))))))) (fRet (fC (.bl false))) fNext) (fSeq (fAsg (fVar 0) (tTupG 2 (tConsG (tName 2) (tConsG (tName 3) tNilG)))) (fSeq (fIfS (fB (fBin opEq (fVar 2) (fC (.str "not")))) (fRet (fBin opEq (fCall (op1 opLen) (aCons (fVar 3) aNil)) (fC (.int 1)))) fNext) (fRet (fAnd (fBin opIn (fVar 2) (fTup (aCons (fC (.str "and")) (aCons (fC (.str "or")) aNil)))) (fBin opLe (fCall (op1 opLen) (aCons (fVar 3) aNil)) (fC (.int 64)))))))
def m_is_gate : Mean := fnM false 2 4 b_is_gate
theorem ok_is_gate (Z : Zf K mg) : DefOk P w K mg base (He.ga K) 5 "is_gate" s16 ["value", "own"] m_is_gate :=
  def_ok (k := 4) (fb := b_is_gate) false 2 4 rfl rfl Z.d_16 sc_is_gate fun f cdv A outer s H E hr =>
    dss_cons (ds_if (dt_w (dw_or (dt_not (dt_tru (de_callX (ok_is_tuple Z) tkF hr (da_cons (de_var (i := 0)) (da_cons de_int da_nil))))) (dw_or (dt_not (dt_tru (de_isi Z.tab (T := "str") (by decide) rfl Z.b_isinstance (de_ix hr.u1 (de_var (i := 0)) de_int) rfl Z.b_str boot_str))) (dw_or1 (dt_not (dt_tru (de_callX (ok_are_wires Z) tkF hr (da_cons (de_ix hr.u1 (de_var (i := 0)) de_int) (da_cons (de_var (i := 1)) da_nil))))))))) (dss_one (ds_ret de_bl)) dss_nil) (dss_cons (ds_asg (de_var (i := 0)) (dg_tup rfl (dgs_cons (dg_name (i := 2) sc_is_gate.nd) (dgs_cons (dg_name (i := 3) sc_is_gate.nd) dgs_nil)))) (dss_cons (ds_if (dt_cmp (suits_eq hr.units) (de_var (i := 2)) (de_gstr rfl Z.g_NOT) (nomark _)) (dss_one (ds_ret (de_cmp (suits_eq hr.units) (de_callB suits_len rfl Z.b_len boot_len (da_cons (de_var (i := 3)) da_nil)) de_int (nomark _)))) dss_nil) (dss_one (ds_ret (de_and (de_in hr.u65 (de_var (i := 2)) (de_tup (da_cons (de_gstr rfl Z.g_AND) (da_cons (de_gstr rfl Z.g_OR) da_nil)))) (de_one (de_cmp suits_le (de_callB suits_len rfl Z.b_len boot_len (da_cons (de_var (i := 3)) da_nil)) (de_gint rfl Z.g_MOST_READ) (by rfl))))))))
theorem sc_are_gates : FnScope ["value", "first", "at", "gate"] ["value", "first"] (defScope s17) := ⟨rfl, rfl, rfl, by decide +kernel, rfl, by decide +kernel, by decide +kernel⟩
def b_are_gates : FS := fSeq (fIfS (tfOr (tfNot (fTr (f1 (isiD CS ["tuple"]) (fVar 0)))) (fB (fBin opGt (fCall (op1 opLen) (aCons (fVar 0) aNil)) (fC (.int 2000))))) (fRet (fC (.bl false))) fNext) (fRet (fCall (op1 opAll) (aCons (fLc (fEnm (aCons (fVar 0) aNil)) [2, 3] (tTupG 2 (tConsG (tName 2) (tConsG (tName 3) tNilG))) fYes (fApp m_is_gate (aCons (fVar 3) (aCons (fBin opAdd (fVar 1) (fVar 2)) aNil)))) aNil)))
def m_are_gates : Mean := fnM false 2 4 b_are_gates
theorem ok_are_gates (Z : Zf K mg) : DefOk P w K mg base (He.ga K) 6 "are_gates" s17 ["value", "first"] m_are_gates :=
  def_ok (k := 5) (fb := b_are_gates) false 2 4 rfl rfl Z.d_17 sc_are_gates fun f cdv A outer s H E hr =>
    dss_cons (ds_if (dt_w (dw_or (dt_not (dt_tru (de_isi Z.tab (T := "tuple") (by decide) rfl Z.b_isinstance (de_var (i := 0)) rfl Z.b_tuple boot_tuple))) (dw_or1 (dt_cmp suits_gt (de_callB suits_len rfl Z.b_len boot_len (da_cons (de_var (i := 0)) da_nil)) (de_gint rfl Z.g_MOST_GATES) (by rfl))))) (dss_one (ds_ret de_bl)) dss_nil) (dss_one (ds_ret (de_callB (suits_all rfl) rfl Z.b_all boot_all (da_cons (de_lc [("at", 2), ("gate", 3)] rfl sc_are_gates.nd (di_enm rfl Z.b_enumerate (da_cons (de_var (i := 0)) da_nil)) (blkOk_by (by kernel_rfl)) (fun s H C cl fp => dg_tup rfl (dgs_cons (dg_name (i := 2) sc_are_gates.nd) (dgs_cons (dg_name (i := 3) sc_are_gates.nd) dgs_nil))) (fun s H C cl fp => dts_nil) (fun s H C cl fp => de_callX (ok_is_gate Z) takes0 hr (da_cons (de_var (i := 3)) (da_cons (de_bin suits_add (de_var (i := 1)) (de_var (i := 2))) da_nil)))) da_nil))))
theorem sc_Net_init : FnScope ["self", "ins", "first", "gates", "nexts", "outs"] ["self", "ins", "first", "gates", "nexts", "outs"] (defScope s18) := ⟨rfl, rfl, rfl, by decide +kernel, rfl, by decide +kernel, by decide +kernel⟩
def b_Net_init : FS := fSeq (fIfS (tfNot (fTr (fApp m_is_between (aCons (fVar 1) (aCons (fC (.int 0)) (aCons (fC (.int 24)) aNil)))))) (fRaise "InvalidCount" FLD (fVar 1)) fNext) (fSeq (fIfS (tfNot (fTr (fApp m_is_word (aCons (fVar 2) aNil)))) (fRaise "InvalidWord" FLD (fVar 2)) fNext) (fSeq (fIfS (tfNot (fTr (fApp m_are_gates (aCons (fVar 3) (aCons (fBin opAdd (fVar 1) (fCall (op1 opLen) (aCons (fVar 2) aNil))) aNil))))) (fRaise "InvalidGates" FLD (fVar 3)) fNext) (fSeq (fStF CS FSN "ins" (fVar 0) (fVar 1)) (fSeq (fStF CS FSN "first" (fVar 0) (fVar 2)) (fSeq (fStF CS FSN "gates" (fVar 0) (fVar 3)) (fSeq (fStF CS FSN "latches" (fVar 0) (fCall (op1 opLen) (aCons (fVar 2) aNil))) (fSeq (fStF CS FSN "wires" (fVar 0) (fBin opAdd (fBin opAdd (fVar 1) (fCall (op1 opLen) (aCons (fVar 2) aNil))) (fCall (op1 opLen) (aCons (fVar 3) aNil)))) (fSeq (fIfS (tfOr (tfNot (fTr (fApp m_are_wires (aCons (fVar 4) (aCons (fFld CS FSN "wires" (fVar 0)) aNil))))) (fB (fBin opNe (fCall (op1 opLen) (aCons (fVar 4) aNil)) (fFld CS FSN "latches" (fVar 0))))) (fRaise "InvalidWires" FLD (fVar 4)) fNext) (fSeq (fIfS (tfOr (tfNot (fTr (fApp m_are_wires (aCons (fVar 5) (aCons (fFld CS FSN "wires" (fVar 0)) aNil))))) (fB (fBin opGt (fCall (op1 opLen) (aCons (fVar 5) aNil)) (fC (.int 24))))) (fRaise "InvalidWires" FLD (fVar 5)) fNext) (fSeq (fStF CS FSN "nexts" (fVar 0) (fVar 4)) (fStF CS FSN "outs" (fVar 0) (fVar 5))))))))))))
def m_Net_init : Mean := fnM false 6 6 b_Net_init
theorem mk_Net_init (Z : Zf K mg) : MakOk P w K mg base (He.ga K) 7 "Net" ["self", "ins", "first", "gates", "nexts", "outs"] m_Net_init := by
  obtain ⟨fd, F, hb⟩ := Z.d_18
  exact mak_ok (k := 6) (fb := b_Net_init) false 6 6 rfl rfl Z.c_Net ⟨_, fd, Z.m_Net, F, hb⟩ sc_Net_init fun f cdv A outer s H E hr =>
    dss_cons (ds_if (dt_not (dt_tru (de_callX (ok_is_between Z) tkF hr (da_cons (de_var (i := 1)) (da_cons de_int (da_cons (de_gint rfl Z.g_MOST_WIRES) da_nil)))))) (dss_one (ds_raise (xcls_InvalidCount Z) rfl tkF (hr.mono (by decide)) rfl Z.c_InvalidCount (de_var (i := 1)))) dss_nil) (dss_cons (ds_if (dt_not (dt_tru (de_callX (ok_is_word Z) tkF hr (da_cons (de_var (i := 2)) da_nil)))) (dss_one (ds_raise (xcls_InvalidWord Z) rfl tkF (hr.mono (by decide)) rfl Z.c_InvalidWord (de_var (i := 2)))) dss_nil) (dss_cons (ds_if (dt_not (dt_tru (de_callX (ok_are_gates Z) tkF hr (da_cons (de_var (i := 3)) (da_cons (de_bin suits_add (de_var (i := 1)) (de_callB suits_len rfl Z.b_len boot_len (da_cons (de_var (i := 2)) da_nil))) da_nil))))) (dss_one (ds_raise (xcls_InvalidGates Z) rfl tkF (hr.mono (by decide)) rfl Z.c_InvalidGates (de_var (i := 3)))) dss_nil) (dss_cons (ds_fld Z.tab Z.na (de_var (i := 0)) (de_var (i := 1))) (dss_cons (ds_fld Z.tab Z.na (de_var (i := 0)) (de_var (i := 2))) (dss_cons (ds_fld Z.tab Z.na (de_var (i := 0)) (de_var (i := 3))) (dss_cons (ds_fld Z.tab Z.na (de_var (i := 0)) (de_callB suits_len rfl Z.b_len boot_len (da_cons (de_var (i := 2)) da_nil))) (dss_cons (ds_fld Z.tab Z.na (de_var (i := 0)) (de_bin suits_add (de_bin suits_add (de_var (i := 1)) (de_callB suits_len rfl Z.b_len boot_len (da_cons (de_var (i := 2)) da_nil))) (de_callB suits_len rfl Z.b_len boot_len (da_cons (de_var (i := 3)) da_nil)))) (dss_cons (ds_if (dt_w (dw_or (dt_not (dt_tru (de_callX (ok_are_wires Z) tkF hr (da_cons (de_var (i := 4)) (da_cons (de_fld Z.tab Z.na (de_var (i := 0))) da_nil))))) (dw_or1 (dt_cmp (suits_ne hr.units) (de_callB suits_len rfl Z.b_len boot_len (da_cons (de_var (i := 4)) da_nil)) (de_fld Z.tab Z.na (de_var (i := 0))) (nomark _))))) (dss_one (ds_raise (xcls_InvalidWires Z) rfl tkF (hr.mono (by decide)) rfl Z.c_InvalidWires (de_var (i := 4)))) dss_nil) (dss_cons (ds_if (dt_w (dw_or (dt_not (dt_tru (de_callX (ok_are_wires Z) tkF hr (da_cons (de_var (i := 5)) (da_cons (de_fld Z.tab Z.na (de_var (i := 0))) da_nil))))) (dw_or1 (dt_cmp suits_gt (de_callB suits_len rfl Z.b_len boot_len (da_cons (de_var (i := 5)) da_nil)) (de_gint rfl Z.g_MOST_WIRES) (by rfl))))) (dss_one (ds_raise (xcls_InvalidWires Z) rfl tkF (hr.mono (by decide)) rfl Z.c_InvalidWires (de_var (i := 5)))) dss_nil) (dss_cons (ds_fld Z.tab Z.na (de_var (i := 0)) (de_var (i := 4))) (dss_one (ds_fld Z.tab Z.na (de_var (i := 0)) (de_var (i := 5))))))))))))))
theorem sc_Net_eq : FnScope ["self", "other"] ["self", "other"] (defScope s19) := ⟨rfl, rfl, rfl, by decide +kernel, rfl, by decide +kernel, by decide +kernel⟩
def b_Net_eq : FS := fRet (fAnd (f1 (isiC CS "Net") (fVar 1)) (fAnd (fBin opEq (fFld CS FSN "ins" (fVar 0)) (fFld CS FSN "ins" (fVar 1))) (fAnd (fBin opEq (fFld CS FSN "first" (fVar 0)) (fFld CS FSN "first" (fVar 1))) (fAnd (fBin opEq (fFld CS FSN "gates" (fVar 0)) (fFld CS FSN "gates" (fVar 1))) (fAnd (fBin opEq (fFld CS FSN "nexts" (fVar 0)) (fFld CS FSN "nexts" (fVar 1))) (fBin opEq (fFld CS FSN "outs" (fVar 0)) (fFld CS FSN "outs" (fVar 1))))))))
def m_Net_eq : Mean := fnM false 2 2 b_Net_eq
theorem eq_Net_eq (Z : Zf K mg) : EqvOk P w K mg base (He.ga K) 1 "Net" m_Net_eq :=
  eqv_ok (k := 0) (fb := b_Net_eq) false 2 rfl Z.d_19 sc_Net_eq rfl fun f cdv A outer s H E hr =>
    dss_one (ds_ret (de_and (de_isic Z.tab rfl Z.b_isinstance (de_var (i := 1)) rfl Z.c_Net) (de_and (de_cmp (suits_eq hr.units) (de_fld Z.tab Z.na (de_var (i := 0))) (de_fld Z.tab Z.na (de_var (i := 1))) (nomark _)) (de_and (de_cmp (suits_eq hr.units) (de_fld Z.tab Z.na (de_var (i := 0))) (de_fld Z.tab Z.na (de_var (i := 1))) (nomark _)) (de_and (de_cmp (suits_eq hr.units) (de_fld Z.tab Z.na (de_var (i := 0))) (de_fld Z.tab Z.na (de_var (i := 1))) (nomark _)) (de_and (de_cmp (suits_eq hr.units) (de_fld Z.tab Z.na (de_var (i := 0))) (de_fld Z.tab Z.na (de_var (i := 1))) (nomark _)) (de_one (de_cmp (suits_eq hr.units) (de_fld Z.tab Z.na (de_var (i := 0))) (de_fld Z.tab Z.na (de_var (i := 1))) (nomark _)))))))))
theorem sc_need_net : FnScope ["net"] ["net"] (defScope s20) := ⟨rfl, rfl, rfl, by decide +kernel, rfl, by decide +kernel, by decide +kernel⟩
def b_need_net : FS := fIfS (tfNot (fTr (f1 (isiC CS "Net") (fVar 0)))) (fRaise "InvalidNet" FLD (fVar 0)) fNext
def m_need_net : Mean := fnM false 1 1 b_need_net
theorem ok_need_net (Z : Zf K mg) : DefOk P w K mg base (He.ga K) 3 "need_net" s20 ["net"] m_need_net :=
  def_ok (k := 2) (fb := b_need_net) false 1 1 rfl rfl Z.d_20 sc_need_net fun f cdv A outer s H E hr =>
    dss_one (ds_if (dt_not (dt_tru (de_isic Z.tab rfl Z.b_isinstance (de_var (i := 0)) rfl Z.c_Net))) (dss_one (ds_raise (xcls_InvalidNet Z) rfl tkF (hr.mono (by decide)) rfl Z.c_InvalidNet (de_var (i := 0)))) dss_nil)
theorem sc_has_place : FnScope ["net", "value", "known", "counts"] ["net", "value"] (defScope s21) := ⟨rfl, rfl, rfl, by decide +kernel, rfl, by decide +kernel, by decide +kernel⟩
def b_has_place : FS := fSeq (fIfS (tfOr (tfNot (fTr (f1 (isiD CS ["tuple"]) (fVar 1)))) (tfOr (fB (fBin opLt (fCall (op1 opLen) (aCons (fVar 1) aNil)) (fC (.int 2)))) (tfNot (fTr (f1 (isiD CS ["str"]) (fBin opIx (fVar 1) (fC (.int 0)))))))) (fRet (fC (.bl false))) fNext) (fSeq (fIfS (fB (fBin opEq (fBin opIx (fVar 1) (fC (.int 0))) (fC (.str "gate")))) (fSeq (fSet 2 (fAnd (fBin opEq (fCall (op1 opLen) (aCons (fVar 1) aNil)) (fC (.int 3))) (fApp m_is_index (aCons (fBin opIx (fVar 1) (fC (.int 1))) (aCons (fCall (op1 opLen) (aCons (fFld CS FSN "gates" (fVar 0)) aNil)) aNil))))) (fRet (fAnd (fVar 2) (fApp m_is_index (aCons (fBin opIx (fVar 1) (fC (.int 2))) (aCons (fCall (op1 opLen) (aCons (fBin opIx (fBin opIx (fFld CS FSN "gates" (fVar 0)) (fBin opIx (fVar 1) (fC (.int 1)))) (fC (.int 1))) aNil)) aNil)))))) fNext) (fSeq (fSet 3 (fDisp ((fC (.str "wire"), fFld CS FSN "wires" (fVar 0)) :: (fC (.str "next"), fFld CS FSN "latches" (fVar 0)) :: (fC (.str "out"), fCall (op1 opLen) (aCons (fFld CS FSN "outs" (fVar 0)) aNil)) :: []))) (fRet (fAnd (fBin opIn (fBin opIx (fVar 1) (fC (.int 0))) (fVar 3)) (fAnd (fBin opEq (fCall (op1 opLen) (aCons (fVar 1) aNil)) (fC (.int 2))) (fApp m_is_index (aCons (fBin opIx (fVar 1) (fC (.int 1))) (aCons (fBin opIx (fVar 3) (fBin opIx (fVar 1) (fC (.int 0)))) aNil))))))))
def m_has_place : Mean := fnM false 2 4 b_has_place
theorem ok_has_place (Z : Zf K mg) : DefOk P w K mg base (He.ga K) 4 "has_place" s21 ["net", "value"] m_has_place :=
  def_ok (k := 3) (fb := b_has_place) false 2 4 rfl rfl Z.d_21 sc_has_place fun f cdv A outer s H E hr =>
    dss_cons (ds_if (dt_w (dw_or (dt_not (dt_tru (de_isi Z.tab (T := "tuple") (by decide) rfl Z.b_isinstance (de_var (i := 1)) rfl Z.b_tuple boot_tuple))) (dw_or (dt_cmp suits_lt (de_callB suits_len rfl Z.b_len boot_len (da_cons (de_var (i := 1)) da_nil)) de_int (by rfl)) (dw_or1 (dt_not (dt_tru (de_isi Z.tab (T := "str") (by decide) rfl Z.b_isinstance (de_ix hr.u1 (de_var (i := 1)) de_int) rfl Z.b_str boot_str))))))) (dss_one (ds_ret de_bl)) dss_nil) (dss_cons (ds_if (dt_cmp (suits_eq hr.units) (de_ix hr.u1 (de_var (i := 1)) de_int) (de_gstr rfl Z.g_GATE) (nomark _)) (dss_cons (ds_set (i := 2) sc_has_place.nd (de_and (de_cmp (suits_eq hr.units) (de_callB suits_len rfl Z.b_len boot_len (da_cons (de_var (i := 1)) da_nil)) de_int (nomark _)) (de_one (de_callX (ok_is_index Z) tkF hr (da_cons (de_ix hr.u1 (de_var (i := 1)) de_int) (da_cons (de_callB suits_len rfl Z.b_len boot_len (da_cons (de_fld Z.tab Z.na (de_var (i := 0))) da_nil)) da_nil)))))) (dss_one (ds_ret (de_and (de_var (i := 2)) (de_one (de_callX (ok_is_index Z) tkF hr (da_cons (de_ix hr.u1 (de_var (i := 1)) de_int) (da_cons (de_callB suits_len rfl Z.b_len boot_len (da_cons (de_ix hr.u1 (de_ix hr.u1 (de_fld Z.tab Z.na (de_var (i := 0))) (de_ix hr.u1 (de_var (i := 1)) de_int)) de_int) da_nil)) da_nil)))))))) dss_nil) (dss_cons (ds_set (i := 3) sc_has_place.nd (de_disp (dps_cons (de_gstr rfl Z.g_WIRE) (de_fld Z.tab Z.na (de_var (i := 0))) (dps_cons (de_gstr rfl Z.g_NEXT) (de_fld Z.tab Z.na (de_var (i := 0))) (dps_cons (de_gstr rfl Z.g_OUT) (de_callB suits_len rfl Z.b_len boot_len (da_cons (de_fld Z.tab Z.na (de_var (i := 0))) da_nil)) dps_nil))))) (dss_one (ds_ret (de_and (de_in hr.u65 (de_ix hr.u1 (de_var (i := 1)) de_int) (de_var (i := 3))) (de_and (de_cmp (suits_eq hr.units) (de_callB suits_len rfl Z.b_len boot_len (da_cons (de_var (i := 1)) da_nil)) de_int (nomark _)) (de_one (de_callX (ok_is_index Z) tkF hr (da_cons (de_ix hr.u1 (de_var (i := 1)) de_int) (da_cons (de_ix hr.u1 (de_var (i := 3)) (de_ix hr.u1 (de_var (i := 1)) de_int)) da_nil))))))))))
theorem sc_gate_sign : FnScope ["kind", "signs"] ["kind", "signs"] (defScope s22) := ⟨rfl, rfl, rfl, by decide +kernel, rfl, by decide +kernel, by decide +kernel⟩
def b_gate_sign : FS := fSeq (fIfS (fB (fBin opEq (fVar 0) (fC (.str "and")))) (fRet (fCall (op1 opInt) (aCons (fBin opNin (fC (.int 0)) (fVar 1)) aNil))) fNext) (fRet (fIf (fB (fBin opEq (fVar 0) (fC (.str "or")))) (fCall (op1 opInt) (aCons (fBin opIn (fC (.int 1)) (fVar 1)) aNil)) (fBin opSub (fC (.int 1)) (fBin opIx (fVar 1) (fC (.int 0))))))
def m_gate_sign : Mean := fnM false 2 2 b_gate_sign
theorem ok_gate_sign (Z : Zf K mg) : DefOk P w K mg base (He.ga K) 1 "gate_sign" s22 ["kind", "signs"] m_gate_sign :=
  def_ok (k := 0) (fb := b_gate_sign) false 2 2 rfl rfl Z.d_22 sc_gate_sign fun f cdv A outer s H E hr =>
    dss_cons (ds_if (dt_cmp (suits_eq hr.units) (de_var (i := 0)) (de_gstr rfl Z.g_AND) (nomark _)) (dss_one (ds_ret (de_callTy suits_int_ rfl Z.b_int boot_int (da_cons (de_nin hr.u65 de_int (de_var (i := 1))) da_nil)))) dss_nil) (dss_one (ds_ret (de_if (dt_cmp (suits_eq hr.units) (de_var (i := 0)) (de_gstr rfl Z.g_OR) (nomark _)) (de_callTy suits_int_ rfl Z.b_int boot_int (da_cons (de_in hr.u65 de_int (de_var (i := 1))) da_nil)) (de_bin suits_sub de_int (de_ix hr.u1 (de_var (i := 1)) de_int)))))
theorem sc_step : FnScope ["net", "now", "given", "hurts", "signs", "wire", "sign", "at", "kind", "wires", "read", "k", "after", "shown"] ["net", "now", "given", "hurts"] (defScope s23) := ⟨rfl, rfl, rfl, by decide +kernel, rfl, by decide +kernel, by decide +kernel⟩
def b_step : FS := fSeq (fSet 4 (fLcC (fEnm (aCons (fBin opAdd (fVar 2) (fVar 1)) aNil)) [5, 6] (tTupG 2 (tConsG (tName 5) (tConsG (tName 6) tNilG))) fYes (fGet2 (fVar 3) (fTup (aCons (fC (.str "wire")) (aCons (fVar 5) aNil))) (fCall (op1 opInt) (aCons (fVar 6) aNil))))) (fSeq (fFor (fEnm (aCons (fFld CS FSN "gates" (fVar 0)) aNil)) (tTupG 2 (tConsG (tName 7) (tConsG (tTupG 2 (tConsG (tName 8) (tConsG (tName 9) tNilG))) tNilG))) (fSeq (fSet 10 (fLc (fItr (fVar 9)) [5] (tName 5) fYes (fBin opIx (fVar 4) (fVar 5)))) (fSeq (fIfS (fB (fBin opNeE (fVar 3) fDk)) (fSet 10 (fLc (fEnm (aCons (fVar 10) aNil)) [11, 6] (tTupG 2 (tConsG (tName 11) (tConsG (tName 6) tNilG))) fYes (fGet2 (fVar 3) (fTup (aCons (fC (.str "gate")) (aCons (fVar 7) (aCons (fVar 11) aNil)))) (fVar 6)))) fNext) (fExpr (fML opAppend (fVar 4) (aCons (fGet2 (fVar 3) (fTup (aCons (fC (.str "wire")) (aCons (fCall (op1 opLen) (aCons (fVar 4) aNil)) aNil))) (fApp m_gate_sign (aCons (fVar 8) (aCons (fVar 10) aNil)))) aNil)))))) (fSeq (fSet 12 (fLc (fEnm (aCons (fFld CS FSN "nexts" (fVar 0)) aNil)) [7, 5] (tTupG 2 (tConsG (tName 7) (tConsG (tName 5) tNilG))) fYes (fGet2 (fVar 3) (fTup (aCons (fC (.str "next")) (aCons (fVar 7) aNil))) (fBin opIx (fVar 4) (fVar 5))))) (fSeq (fSet 13 (fLc (fEnm (aCons (fFld CS FSN "outs" (fVar 0)) aNil)) [7, 5] (tTupG 2 (tConsG (tName 7) (tConsG (tName 5) tNilG))) fYes (fGet2 (fVar 3) (fTup (aCons (fC (.str "out")) (aCons (fVar 7) aNil))) (fBin opIx (fVar 4) (fVar 5))))) (fRet (fTup (aCons (fM1 opJoin isStr (fC (.str "")) (fLc (fItr (fVar 12)) [6] (tName 6) fYes (fCall (op1 opStr) (aCons (fVar 6) aNil)))) (aCons (fM1 opJoin isStr (fC (.str "")) (fLc (fItr (fVar 13)) [6] (tName 6) fYes (fCall (op1 opStr) (aCons (fVar 6) aNil)))) aNil)))))))
def m_step : Mean := fnM false 4 14 b_step
theorem ok_step (Z : Zf K mg) : DefOk P w K mg base (He.ga K) 2 "step" s23 ["net", "now", "given", "hurts"] m_step :=
  def_ok (k := 1) (fb := b_step) false 4 14 rfl rfl Z.d_23 sc_step fun f cdv A outer s H E hr =>
    dss_cons (ds_set (i := 4) sc_step.nd (de_lcC [("wire", 5), ("sign", 6)] rfl sc_step.nd (di_enm rfl Z.b_enumerate (da_cons (de_bin suits_add (de_var (i := 2)) (de_var (i := 1))) da_nil)) (blkOk_by (by kernel_rfl)) (fun s H C cl fp => dg_tup rfl (dgs_cons (dg_name (i := 5) sc_step.nd) (dgs_cons (dg_name (i := 6) sc_step.nd) dgs_nil))) (fun s H C cl fp => dts_nil) (fun s H C cl fp => de_get2 hr.u1 (de_var (i := 3)) (de_tup (da_cons (de_gstr rfl Z.g_WIRE) (da_cons (de_var (i := 5)) da_nil))) (de_callTy suits_int_ rfl Z.b_int boot_int (da_cons (de_var (i := 6)) da_nil))))) (dss_cons (ds_for ppF rfl (di_enm rfl Z.b_enumerate (da_cons (de_fld Z.tab Z.na (de_var (i := 0))) da_nil)) (dg_tup rfl (dgs_cons (dg_name (i := 7) sc_step.nd) (dgs_cons (dg_tup rfl (dgs_cons (dg_name (i := 8) sc_step.nd) (dgs_cons (dg_name (i := 9) sc_step.nd) dgs_nil))) dgs_nil))) (dss_cons (set_lcT [("wire", 5)] rfl sc_step.nd (di_seq (de_var (i := 9))) (blkOk_by (by kernel_rfl)) (fun s H C cl fp => dg_name (i := 5) sc_step.nd) (fun s H C cl fp => dts_nil) (fun s H C cl fp => de_ix hr.u1 (de_var (i := 4)) (de_var (i := 5)))) (dss_cons (ds_if (dt_cmp (suits_neE hr.units) (de_var (i := 3)) de_dk (nomark _)) (dss_one (set_lcT [("k", 11), ("sign", 6)] rfl sc_step.nd (di_enm rfl Z.b_enumerate (da_cons (de_var (i := 10)) da_nil)) (blkOk_by (by kernel_rfl)) (fun s H C cl fp => dg_tup rfl (dgs_cons (dg_name (i := 11) sc_step.nd) (dgs_cons (dg_name (i := 6) sc_step.nd) dgs_nil))) (fun s H C cl fp => dts_nil) (fun s H C cl fp => de_get2 hr.u1 (de_var (i := 3)) (de_tup (da_cons (de_gstr rfl Z.g_GATE) (da_cons (de_var (i := 7)) (da_cons (de_var (i := 11)) da_nil)))) (de_var (i := 6))))) dss_nil) (dss_one (ds_expr (de_append (de_var (i := 4)) (da_cons (de_get2 hr.u1 (de_var (i := 3)) (de_tup (da_cons (de_gstr rfl Z.g_WIRE) (da_cons (de_callB suits_len rfl Z.b_len boot_len (da_cons (de_var (i := 4)) da_nil)) da_nil))) (de_callX (ok_gate_sign Z) tkF hr (da_cons (de_var (i := 8)) (da_cons (de_var (i := 10)) da_nil)))) da_nil))))))) (dss_cons (set_lcT [("at", 7), ("wire", 5)] rfl sc_step.nd (di_enm rfl Z.b_enumerate (da_cons (de_fld Z.tab Z.na (de_var (i := 0))) da_nil)) (blkOk_by (by kernel_rfl)) (fun s H C cl fp => dg_tup rfl (dgs_cons (dg_name (i := 7) sc_step.nd) (dgs_cons (dg_name (i := 5) sc_step.nd) dgs_nil))) (fun s H C cl fp => dts_nil) (fun s H C cl fp => de_get2 hr.u1 (de_var (i := 3)) (de_tup (da_cons (de_gstr rfl Z.g_NEXT) (da_cons (de_var (i := 7)) da_nil))) (de_ix hr.u1 (de_var (i := 4)) (de_var (i := 5))))) (dss_cons (set_lcT [("at", 7), ("wire", 5)] rfl sc_step.nd (di_enm rfl Z.b_enumerate (da_cons (de_fld Z.tab Z.na (de_var (i := 0))) da_nil)) (blkOk_by (by kernel_rfl)) (fun s H C cl fp => dg_tup rfl (dgs_cons (dg_name (i := 7) sc_step.nd) (dgs_cons (dg_name (i := 5) sc_step.nd) dgs_nil))) (fun s H C cl fp => dts_nil) (fun s H C cl fp => de_get2 hr.u1 (de_var (i := 3)) (de_tup (da_cons (de_gstr rfl Z.g_OUT) (da_cons (de_var (i := 7)) da_nil))) (de_ix hr.u1 (de_var (i := 4)) (de_var (i := 5))))) (dss_one (ds_ret (de_tup (da_cons (de_join de_str (de_lc [("sign", 6)] rfl sc_step.nd (di_seq (de_var (i := 12))) (blkOk_by (by kernel_rfl)) (fun s H C cl fp => dg_name (i := 6) sc_step.nd) (fun s H C cl fp => dts_nil) (fun s H C cl fp => de_callTy suits_str_ rfl Z.b_str boot_str (da_cons (de_var (i := 6)) da_nil)))) (da_cons (de_join de_str (de_lc [("sign", 6)] rfl sc_step.nd (di_seq (de_var (i := 13))) (blkOk_by (by kernel_rfl)) (fun s H C cl fp => dg_name (i := 6) sc_step.nd) (fun s H C cl fp => dts_nil) (fun s H C cl fp => de_callTy suits_str_ rfl Z.b_str boot_str (da_cons (de_var (i := 6)) da_nil)))) da_nil))))))))
theorem sc_run_on : FnScope ["net", "words", "hurts", "now", "found", "word", "one", "shown"] ["net", "words", "hurts"] (defScope s24) := ⟨rfl, rfl, rfl, by decide +kernel, rfl, by decide +kernel, by decide +kernel⟩
def b_run_on : FS := fSeq (fPar 3 4 (fFld CS FSN "first" (fVar 0)) (fLstC aNil)) (fSeq (fFor (fZip (aCons (fVar 1) (aCons (fVar 2) aNil))) (tTupG 2 (tConsG (tName 5) (tConsG (tName 6) tNilG))) (fSeq (fAsg (fApp m_step (aCons (fVar 0) (aCons (fVar 3) (aCons (fVar 5) (aCons (fVar 6) aNil))))) (tTupG 2 (tConsG (tName 3) (tConsG (tName 7) tNilG)))) (fExpr (fML opAppend (fVar 4) (aCons (fVar 7) aNil))))) (fRet (fFz (fVar 4))))
def m_run_on : Mean := fnM false 3 8 b_run_on
theorem ok_run_on (Z : Zf K mg) : DefOk P w K mg base (He.ga K) 3 "run_on" s24 ["net", "words", "hurts"] m_run_on :=
  def_ok (k := 2) (fb := b_run_on) false 3 8 rfl rfl Z.d_24 sc_run_on fun f cdv A outer s H E hr =>
    dss_cons (ds_par (i := 3) (j := 4) rfl sc_run_on.nd (de_fld Z.tab Z.na (de_var (i := 0))) (de_lstC da_nil)) (dss_cons (ds_for ppF rfl (di_zip rfl Z.b_zip (da_cons (de_var (i := 1)) (da_cons (de_var (i := 2)) da_nil))) (dg_tup rfl (dgs_cons (dg_name (i := 5) sc_run_on.nd) (dgs_cons (dg_name (i := 6) sc_run_on.nd) dgs_nil))) (dss_cons (ds_asg (de_callX (ok_step Z) tkF hr (da_cons (de_var (i := 0)) (da_cons (de_var (i := 3)) (da_cons (de_var (i := 5)) (da_cons (de_var (i := 6)) da_nil))))) (dg_tup rfl (dgs_cons (dg_name (i := 3) sc_run_on.nd) (dgs_cons (dg_name (i := 7) sc_run_on.nd) dgs_nil)))) (dss_one (ds_expr (de_append (de_var (i := 4)) (da_cons (de_var (i := 7)) da_nil)))))) (dss_one (ds_ret (de_fz (de_var (i := 4))))))
theorem sc_is_sign : FnScope ["value"] ["value"] (defScope s25) := ⟨rfl, rfl, rfl, by decide +kernel, rfl, by decide +kernel, by decide +kernel⟩
def b_is_sign : FS := fRet (fApp m_is_between (aCons (fVar 0) (aCons (fC (.int 0)) (aCons (fC (.int 1)) aNil))))
def m_is_sign : Mean := fnM false 1 1 b_is_sign
theorem ok_is_sign (Z : Zf K mg) : DefOk P w K mg base (He.ga K) 3 "is_sign" s25 ["value"] m_is_sign :=
  def_ok (k := 2) (fb := b_is_sign) false 1 1 rfl rfl Z.d_25 sc_is_sign fun f cdv A outer s H E hr =>
    dss_one (ds_ret (de_callX (ok_is_between Z) tkF hr (da_cons (de_var (i := 0)) (da_cons de_int (da_cons de_int da_nil)))))
theorem sc_signs_in : FnScope ["net", "value", "found", "hurt"] ["net", "value"] (defScope s26) := ⟨rfl, rfl, rfl, by decide +kernel, rfl, by decide +kernel, by decide +kernel⟩
def b_signs_in : FS := fSeq (fIfS (tfNot (fTr (fApp m_is_list (aCons (fVar 1) aNil)))) (fRet (fC .non)) fNext) (fSeq (fSet 2 fDtC) (fSeq (fFor (fItr (fVar 1)) (tName 3) (fSeq (fIfS (tfOr (tfNot (fTr (fApp m_is_tuple (aCons (fVar 3) (aCons (fC (.int 2)) aNil))))) (tfOr (tfNot (fTr (fApp m_has_place (aCons (fVar 0) (aCons (fBin opIx (fVar 3) (fC (.int 0))) aNil))))) (tfOr (tfNot (fTr (fApp m_is_sign (aCons (fBin opIx (fVar 3) (fC (.int 1))) aNil)))) (fB (fBin opIn (fBin opIx (fVar 3) (fC (.int 0))) (fVar 2)))))) (fRet (fC .non)) fNext) (fStore (fVar 2) (fBin opIx (fVar 3) (fC (.int 0))) (fBin opIx (fVar 3) (fC (.int 1)))))) (fRet (fFz (fVar 2)))))
def m_signs_in : Mean := fnM false 2 4 b_signs_in
theorem ok_signs_in (Z : Zf K mg) : DefOk P w K mg base (He.ga K) 5 "signs_in" s26 ["net", "value"] m_signs_in :=
  def_ok (k := 4) (fb := b_signs_in) false 2 4 rfl rfl Z.d_26 sc_signs_in fun f cdv A outer s H E hr =>
    dss_cons (ds_if (dt_not (dt_tru (de_callX (ok_is_list Z) tkF hr (da_cons (de_var (i := 1)) da_nil)))) (dss_one (ds_ret de_non)) dss_nil) (dss_cons (ds_set (i := 2) sc_signs_in.nd de_dtC) (dss_cons (ds_for ppF rfl (di_seq (de_var (i := 1))) (dg_name (i := 3) sc_signs_in.nd) (dss_cons (ds_if (dt_w (dw_or (dt_not (dt_tru (de_callX (ok_is_tuple Z) tkF hr (da_cons (de_var (i := 3)) (da_cons de_int da_nil))))) (dw_or (dt_not (dt_tru (de_callX (ok_has_place Z) tkF hr (da_cons (de_var (i := 0)) (da_cons (de_ix hr.u1 (de_var (i := 3)) de_int) da_nil))))) (dw_or (dt_not (dt_tru (de_callX (ok_is_sign Z) tkF hr (da_cons (de_ix hr.u1 (de_var (i := 3)) de_int) da_nil)))) (dw_or1 (dt_in hr.u65 (de_ix hr.u1 (de_var (i := 3)) de_int) (de_var (i := 2)))))))) (dss_one (ds_ret de_non)) dss_nil) (dss_one (ds_store hr.u1 (de_var (i := 2)) (de_ix hr.u1 (de_var (i := 3)) de_int) (de_ix hr.u1 (de_var (i := 3)) de_int))))) (dss_one (ds_ret (de_fz (de_var (i := 2)))))))
theorem sc_hurts_in : FnScope ["net", "value", "count", "found", "one"] ["net", "value", "count"] (defScope s27) := ⟨rfl, rfl, rfl, by decide +kernel, rfl, by decide +kernel, by decide +kernel⟩
def b_hurts_in : FS := fSeq (fIfS (tfOr (tfNot (fTr (fApp m_is_list (aCons (fVar 1) aNil)))) (fB (fBin opNe (fCall (op1 opLen) (aCons (fVar 1) aNil)) (fVar 2)))) (fRet (fC .non)) fNext) (fSeq (fSet 3 (fLc (fItr (fVar 1)) [4] (tName 4) fYes (fApp m_signs_in (aCons (fVar 0) (aCons (fVar 4) aNil))))) (fRet (fIf (fB (fBin opNoneIn (fC .non) (fVar 3))) (fC .non) (fVar 3))))
def m_hurts_in : Mean := fnM false 3 5 b_hurts_in
theorem ok_hurts_in (Z : Zf K mg) : DefOk P w K mg base (He.ga K) 6 "hurts_in" s27 ["net", "value", "count"] m_hurts_in :=
  def_ok (k := 5) (fb := b_hurts_in) false 3 5 rfl rfl Z.d_27 sc_hurts_in fun f cdv A outer s H E hr =>
    dss_cons (ds_if (dt_w (dw_or (dt_not (dt_tru (de_callX (ok_is_list Z) tkF hr (da_cons (de_var (i := 1)) da_nil)))) (dw_or1 (dt_cmp (suits_ne hr.units) (de_callB suits_len rfl Z.b_len boot_len (da_cons (de_var (i := 1)) da_nil)) (de_var (i := 2)) (nomark _))))) (dss_one (ds_ret de_non)) dss_nil) (dss_cons (set_lcT [("one", 4)] rfl sc_hurts_in.nd (di_seq (de_var (i := 1))) (blkOk_by (by kernel_rfl)) (fun s H C cl fp => dg_name (i := 4) sc_hurts_in.nd) (fun s H C cl fp => dts_nil) (fun s H C cl fp => de_callX (ok_signs_in Z) takes0 hr (da_cons (de_var (i := 0)) (da_cons (de_var (i := 4)) da_nil)))) (dss_one (ds_ret (de_if (dt_cmp (suits_nonein hr.u65) de_non (de_var (i := 3)) (by rfl)) de_non (de_var (i := 3))))))
theorem sc_need_words : FnScope ["net", "words", "least", "word"] ["net", "words", "least"] (defScope s28) := ⟨rfl, rfl, rfl, by decide +kernel, rfl, by decide +kernel, by decide +kernel⟩
def b_need_words : FS := fSeq (fIfS (tfOr (tfNot (fTr (fApp m_is_list (aCons (fVar 1) aNil)))) (tfNot (fB (fChain (cmpI (fun i j => decide (i ≤ j))) (cmpI (fun i j => decide (i ≤ j))) (fVar 2) (fCall (op1 opLen) (aCons (fVar 1) aNil)) (fC (.int 200)))))) (fRaise "InvalidWords" FLD (fVar 1)) fNext) (fIfS (tfNot (fTr (fCall (op1 opAll) (aCons (fLc (fItr (fVar 1)) [3] (tName 3) fYes (fApp m_is_word_of (aCons (fVar 3) (aCons (fFld CS FSN "ins" (fVar 0)) aNil)))) aNil)))) (fRaise "InvalidWords" FLD (fVar 1)) fNext)
def m_need_words : Mean := fnM false 3 4 b_need_words
theorem ok_need_words (Z : Zf K mg) : DefOk P w K mg base (He.ga K) 3 "need_words" s28 ["net", "words", "least"] m_need_words :=
  def_ok (k := 2) (fb := b_need_words) false 3 4 rfl rfl Z.d_28 sc_need_words fun f cdv A outer s H E hr =>
    dss_cons (ds_if (dt_w (dw_or (dt_not (dt_tru (de_callX (ok_is_list Z) tkF hr (da_cons (de_var (i := 1)) da_nil)))) (dw_or1 (dt_not (dt_chain chLe chLe (de_var (i := 2)) (de_callB suits_len rfl Z.b_len boot_len (da_cons (de_var (i := 1)) da_nil)) (de_gint rfl Z.g_MOST_BEATS)))))) (dss_one (ds_raise (xcls_InvalidWords Z) rfl tkF (hr.mono (by decide)) rfl Z.c_InvalidWords (de_var (i := 1)))) dss_nil) (dss_one (ds_if (dt_not (dt_tru (de_callB (suits_all rfl) rfl Z.b_all boot_all (da_cons (de_lc [("word", 3)] rfl sc_need_words.nd (di_seq (de_var (i := 1))) (blkOk_by (by kernel_rfl)) (fun s H C cl fp => dg_name (i := 3) sc_need_words.nd) (fun s H C cl fp => dts_nil) (fun s H C cl fp => de_callX (ok_is_word_of Z) takes0 hr (da_cons (de_var (i := 3)) (da_cons (de_fld Z.tab Z.na (de_var (i := 0))) da_nil)))) da_nil)))) (dss_one (ds_raise (xcls_InvalidWords Z) rfl tkF (hr.mono (by decide)) rfl Z.c_InvalidWords (de_var (i := 1)))) dss_nil))
theorem sc_need_hurts : FnScope ["net", "hurts", "count", "found"] ["net", "hurts", "count"] (defScope s29) := ⟨rfl, rfl, rfl, by decide +kernel, rfl, by decide +kernel, by decide +kernel⟩
def b_need_hurts : FS := fSeq (fSet 3 (fApp m_hurts_in (aCons (fVar 0) (aCons (fVar 1) (aCons (fVar 2) aNil))))) (fSeq (fIfS (fB (fBin opIs (fVar 3) (fC .non))) (fRaise "InvalidHurts" FLD (fVar 1)) fNext) (fRet (fVar 3)))
def m_need_hurts : Mean := fnM false 3 4 b_need_hurts
theorem ok_need_hurts (Z : Zf K mg) : DefOk P w K mg base (He.ga K) 7 "need_hurts" s29 ["net", "hurts", "count"] m_need_hurts :=
  def_ok (k := 6) (fb := b_need_hurts) false 3 4 rfl rfl Z.d_29 sc_need_hurts fun f cdv A outer s H E hr =>
    dss_cons (ds_set (i := 3) sc_need_hurts.nd (de_callX (ok_hurts_in Z) tkF hr (da_cons (de_var (i := 0)) (da_cons (de_var (i := 1)) (da_cons (de_var (i := 2)) da_nil))))) (dss_cons (ds_if (dt_cmp suits_is (de_var (i := 3)) de_non (by rfl)) (dss_one (ds_raise (xcls_InvalidHurts Z) rfl tkF (hr.mono (by decide)) rfl Z.c_InvalidHurts (de_var (i := 1)))) dss_nil) (dss_one (ds_ret (de_var (i := 3)))))
theorem sc_run : FnScope ["net", "words", "hurts"] ["net", "words", "hurts"] (defScope s30) := ⟨rfl, rfl, rfl, by decide +kernel, rfl, by decide +kernel, by decide +kernel⟩
def b_run : FS := fSeq (fExpr (fApp m_need_net (aCons (fVar 0) aNil))) (fSeq (fExpr (fApp m_need_words (aCons (fVar 0) (aCons (fVar 1) (aCons (fC (.int 0)) aNil))))) (fRet (fApp m_run_on (aCons (fVar 0) (aCons (fVar 1) (aCons (fApp m_need_hurts (aCons (fVar 0) (aCons (fVar 2) (aCons (fCall (op1 opLen) (aCons (fVar 1) aNil)) aNil)))) aNil))))))
def m_run : Mean := fnM false 3 3 b_run
theorem ok_run (Z : Zf K mg) : DefOk P w K mg base (He.ga K) 8 "run" s30 ["net", "words", "hurts"] m_run :=
  def_ok (k := 7) (fb := b_run) false 3 3 rfl rfl Z.d_30 sc_run fun f cdv A outer s H E hr =>
    dss_cons (ds_expr (de_callX (ok_need_net Z) tkF hr (da_cons (de_var (i := 0)) da_nil))) (dss_cons (ds_expr (de_callX (ok_need_words Z) tkF hr (da_cons (de_var (i := 0)) (da_cons (de_var (i := 1)) (da_cons de_int da_nil))))) (dss_one (ds_ret (de_callX (ok_run_on Z) tkF hr (da_cons (de_var (i := 0)) (da_cons (de_var (i := 1)) (da_cons (de_callX (ok_need_hurts Z) tkF hr (da_cons (de_var (i := 0)) (da_cons (de_var (i := 2)) (da_cons (de_callB suits_len rfl Z.b_len boot_len (da_cons (de_var (i := 1)) da_nil)) da_nil)))) da_nil)))))))
theorem sc_latch_behind : FnScope ["net", "words", "hurts", "now", "word", "one"] ["net", "words", "hurts"] (defScope s31) := ⟨rfl, rfl, rfl, by decide +kernel, rfl, by decide +kernel, by decide +kernel⟩
def b_latch_behind : FS := fSeq (fExpr (fApp m_need_net (aCons (fVar 0) aNil))) (fSeq (fExpr (fApp m_need_words (aCons (fVar 0) (aCons (fVar 1) (aCons (fC (.int 0)) aNil))))) (fSeq (fSet 3 (fFld CS FSN "first" (fVar 0))) (fSeq (fFor (fZip (aCons (fVar 1) (aCons (fApp m_need_hurts (aCons (fVar 0) (aCons (fVar 2) (aCons (fCall (op1 opLen) (aCons (fVar 1) aNil)) aNil)))) aNil))) (tTupG 2 (tConsG (tName 4) (tConsG (tName 5) tNilG))) (fSet 3 (fBin opIx (fApp m_step (aCons (fVar 0) (aCons (fVar 3) (aCons (fVar 4) (aCons (fVar 5) aNil))))) (fC (.int 0))))) (fRet (fVar 3)))))
def m_latch_behind : Mean := fnM false 3 6 b_latch_behind
theorem ok_latch_behind (Z : Zf K mg) : DefOk P w K mg base (He.ga K) 8 "latch_behind" s31 ["net", "words", "hurts"] m_latch_behind :=
  def_ok (k := 7) (fb := b_latch_behind) false 3 6 rfl rfl Z.d_31 sc_latch_behind fun f cdv A outer s H E hr =>
    dss_cons (ds_expr (de_callX (ok_need_net Z) tkF hr (da_cons (de_var (i := 0)) da_nil))) (dss_cons (ds_expr (de_callX (ok_need_words Z) tkF hr (da_cons (de_var (i := 0)) (da_cons (de_var (i := 1)) (da_cons de_int da_nil))))) (dss_cons (ds_set (i := 3) sc_latch_behind.nd (de_fld Z.tab Z.na (de_var (i := 0)))) (dss_cons (ds_for ppF rfl (di_zip rfl Z.b_zip (da_cons (de_var (i := 1)) (da_cons (de_callX (ok_need_hurts Z) tkF hr (da_cons (de_var (i := 0)) (da_cons (de_var (i := 2)) (da_cons (de_callB suits_len rfl Z.b_len boot_len (da_cons (de_var (i := 1)) da_nil)) da_nil)))) da_nil))) (dg_tup rfl (dgs_cons (dg_name (i := 4) sc_latch_behind.nd) (dgs_cons (dg_name (i := 5) sc_latch_behind.nd) dgs_nil))) (dss_one (ds_set (i := 3) sc_latch_behind.nd (de_ix hr.u1 (de_callX (ok_step Z) tkF hr (da_cons (de_var (i := 0)) (da_cons (de_var (i := 3)) (da_cons (de_var (i := 4)) (da_cons (de_var (i := 5)) da_nil))))) de_int)))) (dss_one (ds_ret (de_var (i := 3)))))))
theorem sc_need_sign : FnScope ["sign"] ["sign"] (defScope s32) := ⟨rfl, rfl, rfl, by decide +kernel, rfl, by decide +kernel, by decide +kernel⟩
def b_need_sign : FS := fIfS (tfNot (fTr (fApp m_is_between (aCons (fVar 0) (aCons (fC (.int 0)) (aCons (fC (.int 1)) aNil)))))) (fRaise "InvalidSign" FLD (fVar 0)) fNext
def m_need_sign : Mean := fnM false 1 1 b_need_sign
theorem ok_need_sign (Z : Zf K mg) : DefOk P w K mg base (He.ga K) 3 "need_sign" s32 ["sign"] m_need_sign :=
  def_ok (k := 2) (fb := b_need_sign) false 1 1 rfl rfl Z.d_32 sc_need_sign fun f cdv A outer s H E hr =>
    dss_one (ds_if (dt_not (dt_tru (de_callX (ok_is_between Z) tkF hr (da_cons (de_var (i := 0)) (da_cons (de_gint rfl Z.g_FALL) (da_cons (de_gint rfl Z.g_RISE) da_nil)))))) (dss_one (ds_raise (xcls_InvalidSign Z) rfl tkF (hr.mono (by decide)) rfl Z.c_InvalidSign (de_var (i := 0)))) dss_nil)
theorem sc_is_plain : FnScope ["net", "kind", "_"] ["net"] (defScope s33) := ⟨rfl, rfl, rfl, by decide +kernel, rfl, by decide +kernel, by decide +kernel⟩
def b_is_plain : FS := fSeq (fExpr (fApp m_need_net (aCons (fVar 0) aNil))) (fRet (fNotT (fTr (fCall (op1 opAny) (aCons (fLc (fItr (fFld CS FSN "gates" (fVar 0))) [1, 2] (tTupG 2 (tConsG (tName 1) (tConsG (tName 2) tNilG))) fYes (fBin opEq (fVar 1) (fC (.str "not")))) aNil)))))
def m_is_plain : Mean := fnM false 1 3 b_is_plain
theorem ok_is_plain (Z : Zf K mg) : DefOk P w K mg base (He.ga K) 4 "is_plain" s33 ["net"] m_is_plain :=
  def_ok (k := 3) (fb := b_is_plain) false 1 3 rfl rfl Z.d_33 sc_is_plain fun f cdv A outer s H E hr =>
    dss_cons (ds_expr (de_callX (ok_need_net Z) tkF hr (da_cons (de_var (i := 0)) da_nil))) (dss_one (ds_ret (de_notT (de_callB (suits_any rfl) rfl Z.b_any boot_any (da_cons (de_lc [("kind", 1), ("_", 2)] rfl sc_is_plain.nd (di_seq (de_fld Z.tab Z.na (de_var (i := 0)))) (blkOk_by (by kernel_rfl)) (fun s H C cl fp => dg_tup rfl (dgs_cons (dg_name (i := 1) sc_is_plain.nd) (dgs_cons (dg_name (i := 2) sc_is_plain.nd) dgs_nil))) (fun s H C cl fp => dts_nil) (fun s H C cl fp => de_cmp (suits_eq hr.units) (de_var (i := 1)) (de_gstr rfl Z.g_NOT) (nomark _))) da_nil)))))
theorem sc_without_nots : FnScope ["net", "sign", "idle", "gates", "gate"] ["net", "sign"] (defScope s34) := ⟨rfl, rfl, rfl, by decide +kernel, rfl, by decide +kernel, by decide +kernel⟩
def b_without_nots : FS := fSeq (fSet 2 (fIf (fB (fBin opEq (fVar 1) (fC (.int 0)))) (fTup (aCons (fC (.str "and")) (aCons (fTup aNil) aNil))) (fTup (aCons (fC (.str "or")) (aCons (fTup aNil) aNil))))) (fSeq (fSet 3 (fCall (op1 opTuple) (aCons (fLc (fItr (fFld CS FSN "gates" (fVar 0))) [4] (tName 4) fYes (fIf (fB (fBin opEq (fBin opIx (fVar 4) (fC (.int 0))) (fC (.str "not")))) (fVar 2) (fVar 4))) aNil))) (fRet (fMake "Net" m_Net_init (aCons (fFld CS FSN "ins" (fVar 0)) (aCons (fFld CS FSN "first" (fVar 0)) (aCons (fVar 3) (aCons (fFld CS FSN "nexts" (fVar 0)) (aCons (fFld CS FSN "outs" (fVar 0)) aNil))))))))
def m_without_nots : Mean := fnM false 2 5 b_without_nots
theorem ok_without_nots (Z : Zf K mg) : DefOk P w K mg base (He.ga K) 9 "without_nots" s34 ["net", "sign"] m_without_nots :=
  def_ok (k := 8) (fb := b_without_nots) false 2 5 rfl rfl Z.d_34 sc_without_nots fun f cdv A outer s H E hr =>
    dss_cons (ds_set (i := 2) sc_without_nots.nd (de_if (dt_cmp (suits_eq hr.units) (de_var (i := 1)) (de_gint rfl Z.g_FALL) (nomark _)) (de_tup (da_cons (de_gstr rfl Z.g_AND) (da_cons (de_tup da_nil) da_nil))) (de_tup (da_cons (de_gstr rfl Z.g_OR) (da_cons (de_tup da_nil) da_nil))))) (dss_cons (ds_set (i := 3) sc_without_nots.nd (de_callTy suits_tuple rfl Z.b_tuple boot_tuple (da_cons (de_lc [("gate", 4)] rfl sc_without_nots.nd (di_seq (de_fld Z.tab Z.na (de_var (i := 0)))) (blkOk_by (by kernel_rfl)) (fun s H C cl fp => dg_name (i := 4) sc_without_nots.nd) (fun s H C cl fp => dts_nil) (fun s H C cl fp => de_if (dt_cmp (suits_eq hr.units) (de_ix hr.u1 (de_var (i := 4)) de_int) (de_gstr rfl Z.g_NOT) (nomark _)) (de_var (i := 2)) (de_var (i := 4)))) da_nil))) (dss_one (ds_ret (de_makeX 6 (mk_Net_init Z) tkF hr (da_cons (de_fld Z.tab Z.na (de_var (i := 0))) (da_cons (de_fld Z.tab Z.na (de_var (i := 0))) (da_cons (de_var (i := 3)) (da_cons (de_fld Z.tab Z.na (de_var (i := 0))) (da_cons (de_fld Z.tab Z.na (de_var (i := 0))) da_nil)))))))))
theorem sc_top : FnScope ["net"] ["net"] (defScope s35) := ⟨rfl, rfl, rfl, by decide +kernel, rfl, by decide +kernel, by decide +kernel⟩
def b_top : FS := fSeq (fExpr (fApp m_need_net (aCons (fVar 0) aNil))) (fRet (fApp m_without_nots (aCons (fVar 0) (aCons (fC (.int 0)) aNil))))
def m_top : Mean := fnM false 1 1 b_top
theorem ok_top (Z : Zf K mg) : DefOk P w K mg base (He.ga K) 10 "top" s35 ["net"] m_top :=
  def_ok (k := 9) (fb := b_top) false 1 1 rfl rfl Z.d_35 sc_top fun f cdv A outer s H E hr =>
    dss_cons (ds_expr (de_callX (ok_need_net Z) tkF hr (da_cons (de_var (i := 0)) da_nil))) (dss_one (ds_ret (de_callX (ok_without_nots Z) tkF hr (da_cons (de_var (i := 0)) (da_cons (de_gint rfl Z.g_FALL) da_nil)))))
theorem sc_bottom : FnScope ["net"] ["net"] (defScope s36) := ⟨rfl, rfl, rfl, by decide +kernel, rfl, by decide +kernel, by decide +kernel⟩
def b_bottom : FS := fSeq (fExpr (fApp m_need_net (aCons (fVar 0) aNil))) (fRet (fApp m_without_nots (aCons (fVar 0) (aCons (fC (.int 1)) aNil))))
def m_bottom : Mean := fnM false 1 1 b_bottom
theorem ok_bottom (Z : Zf K mg) : DefOk P w K mg base (He.ga K) 10 "bottom" s36 ["net"] m_bottom :=
  def_ok (k := 9) (fb := b_bottom) false 1 1 rfl rfl Z.d_36 sc_bottom fun f cdv A outer s H E hr =>
    dss_cons (ds_expr (de_callX (ok_need_net Z) tkF hr (da_cons (de_var (i := 0)) da_nil))) (dss_one (ds_ret (de_callX (ok_without_nots Z) tkF hr (da_cons (de_var (i := 0)) (da_cons (de_gint rfl Z.g_RISE) da_nil)))))
theorem sc_last_words : FnScope ["net", "words", "now", "shown", "given"] ["net", "words"] (defScope s37) := ⟨rfl, rfl, rfl, by decide +kernel, rfl, by decide +kernel, by decide +kernel⟩
def b_last_words : FS := fSeq (fPar 2 3 (fFld CS FSN "first" (fVar 0)) (fC (.str ""))) (fSeq (fFor (fItr (fVar 1)) (tName 4) (fAsg (fApp m_step (aCons (fVar 0) (aCons (fVar 2) (aCons (fVar 4) (aCons fDt aNil))))) (tTupG 2 (tConsG (tName 2) (tConsG (tName 3) tNilG))))) (fRet (fTup (aCons (fVar 2) (aCons (fVar 3) aNil)))))
def m_last_words : Mean := fnM false 2 5 b_last_words
theorem ok_last_words (Z : Zf K mg) : DefOk P w K mg base (He.ga K) 3 "last_words" s37 ["net", "words"] m_last_words :=
  def_ok (k := 2) (fb := b_last_words) false 2 5 rfl rfl Z.d_37 sc_last_words fun f cdv A outer s H E hr =>
    dss_cons (ds_par (i := 2) (j := 3) rfl sc_last_words.nd (de_fld Z.tab Z.na (de_var (i := 0))) de_str) (dss_cons (ds_for ppF rfl (di_seq (de_var (i := 1))) (dg_name (i := 4) sc_last_words.nd) (dss_one (ds_asg (de_callX (ok_step Z) tkF hr (da_cons (de_var (i := 0)) (da_cons (de_var (i := 2)) (da_cons (de_var (i := 4)) (da_cons de_dt da_nil))))) (dg_tup rfl (dgs_cons (dg_name (i := 2) sc_last_words.nd) (dgs_cons (dg_name (i := 3) sc_last_words.nd) dgs_nil)))))) (dss_one (ds_ret (de_tup (da_cons (de_var (i := 2)) (da_cons (de_var (i := 3)) da_nil))))))
theorem sc_extreme : FnScope ["net", "words", "sign"] ["net", "words", "sign"] (defScope s38) := ⟨rfl, rfl, rfl, by decide +kernel, rfl, by decide +kernel, by decide +kernel⟩
def b_extreme : FS := fSeq (fExpr (fApp m_need_net (aCons (fVar 0) aNil))) (fSeq (fExpr (fApp m_need_words (aCons (fVar 0) (aCons (fVar 1) (aCons (fC (.int 1)) aNil))))) (fSeq (fExpr (fApp m_need_sign (aCons (fVar 2) aNil))) (fRet (fApp m_last_words (aCons (fApp m_without_nots (aCons (fVar 0) (aCons (fVar 2) aNil))) (aCons (fVar 1) aNil))))))
def m_extreme : Mean := fnM false 3 3 b_extreme
theorem ok_extreme (Z : Zf K mg) : DefOk P w K mg base (He.ga K) 10 "extreme" s38 ["net", "words", "sign"] m_extreme :=
  def_ok (k := 9) (fb := b_extreme) false 3 3 rfl rfl Z.d_38 sc_extreme fun f cdv A outer s H E hr =>
    dss_cons (ds_expr (de_callX (ok_need_net Z) tkF hr (da_cons (de_var (i := 0)) da_nil))) (dss_cons (ds_expr (de_callX (ok_need_words Z) tkF hr (da_cons (de_var (i := 0)) (da_cons (de_var (i := 1)) (da_cons de_int da_nil))))) (dss_cons (ds_expr (de_callX (ok_need_sign Z) tkF hr (da_cons (de_var (i := 2)) da_nil))) (dss_one (ds_ret (de_callX (ok_last_words Z) tkF hr (da_cons (de_callX (ok_without_nots Z) tkF hr (da_cons (de_var (i := 0)) (da_cons (de_var (i := 2)) da_nil))) (da_cons (de_var (i := 1)) da_nil)))))))
theorem sc__law_cell : FnScope ["script", "k"] ["script", "k"] (defScope s39) := ⟨rfl, rfl, rfl, by decide +kernel, rfl, by decide +kernel, by decide +kernel⟩
def b__law_cell : FS := fRet (fIf (fB (fBin opLt (fVar 1) (fCall (op1 opLen) (aCons (fVar 0) aNil)))) (fBin opIx (fVar 0) (fVar 1)) (fBin opAdd (fBin opMul (fC (.int 6421)) (fVar 1)) (fBin opMod (fCall (op1 opInt) (aCons (fCall (op1 opSum) (aCons (fSl (fVar 0) oNone (oSome (fC (.int 1)))) aNil)) aNil)) (fC (.int 1000003)))))
def m__law_cell : Mean := fnM false 2 2 b__law_cell
theorem ok__law_cell (Z : Zf K mg) : DefOk P w K mg base (He.ga K) 1 "_law_cell" s39 ["script", "k"] m__law_cell :=
  def_ok (k := 0) (fb := b__law_cell) false 2 2 rfl rfl Z.d_39 sc__law_cell fun f cdv A outer s H E hr =>
    dss_one (ds_ret (de_if (dt_cmp suits_lt (de_var (i := 1)) (de_callB suits_len rfl Z.b_len boot_len (da_cons (de_var (i := 0)) da_nil)) (by rfl)) (de_ix hr.u1 (de_var (i := 0)) (de_var (i := 1))) (de_bin suits_add (de_bin suits_mul de_int (de_var (i := 1))) (de_bin suits_mod (de_callTy suits_int_ rfl Z.b_int boot_int (da_cons (de_callB (suits_sum rfl) rfl Z.b_sum boot_sum (da_cons (de_sl (de_var (i := 0)) do_none (do_some de_int)) da_nil)) da_nil)) de_int))))
theorem sc__law_box : FnScope ["great"] ["great"] (defScope s40) := ⟨rfl, rfl, rfl, by decide +kernel, rfl, by decide +kernel, by decide +kernel⟩
def b__law_box : FS := fRet (fLstC (aCons (fCall (op1 opAbs) (aCons (fVar 0) aNil)) (aCons (fBin opGe (fCall (op1 opAbs) (aCons (fVar 0) aNil)) (fBin opPow (fC (.int 10)) (fC (.int 18)))) (aCons (fBin opMod (fCall (op1 opInt) (aCons (fCall (op1 opAbs) (aCons (fVar 0) aNil)) aNil)) (fC (.int 2147483629))) (aCons (fC (.int 0)) aNil)))))
def m__law_box : Mean := fnM true 1 1 b__law_box
theorem ok__law_box (Z : Zf K mg) : DefOk P w K mg base (He.ga K) 1 "_law_box" s40 ["great"] m__law_box :=
  def_ok (k := 0) (fb := b__law_box) true 1 1 rfl rfl Z.d_40 sc__law_box fun f cdv A outer s H E hr =>
    dss_one (ds_ret (de_lstC (da_cons (de_callB suits_abs rfl Z.b_abs boot_abs (da_cons (de_var (i := 0)) da_nil)) (da_cons (de_cmp suits_ge (de_callB suits_abs rfl Z.b_abs boot_abs (da_cons (de_var (i := 0)) da_nil)) (de_bin suits_pow de_int de_int) (by rfl)) (da_cons (de_bin suits_mod (de_callTy suits_int_ rfl Z.b_int boot_int (da_cons (de_callB suits_abs rfl Z.b_abs boot_abs (da_cons (de_var (i := 0)) da_nil)) da_nil)) de_int) (da_cons de_int da_nil))))))
theorem sc__law_take : FnScope ["box", "many", "digit", "mixed"] ["box", "many"] (defScope s41) := ⟨rfl, rfl, rfl, by decide +kernel, rfl, by decide +kernel, by decide +kernel⟩
def b__law_take : FS := fSeq (fIfS (tfAnd (fTr (fBin opIx (fVar 0) (fC (.int 1)))) (fB (fBin opGt (fBin opIx (fVar 0) (fC (.int 0))) (fC (.int 0))))) (fSeq (fSet 2 (fBin opMod (fCall (op1 opInt) (aCons (fBin opIx (fVar 0) (fC (.int 0))) aNil)) (fVar 1))) (fSeq (fStore (fVar 0) (fC (.int 0)) (fBin opDiv (fBin opIx (fVar 0) (fC (.int 0))) (fVar 1))) (fRet (fVar 2)))) fNext) (fSeq (fStore (fVar 0) (fC (.int 3)) (fBin opAdd (fBin opIx (fVar 0) (fC (.int 3))) (fC (.int 1)))) (fSeq (fSet 3 (fBin opMod (fCall (op1 opInt) (aCons (fBin opPow (fBin opAdd (fBin opAdd (fBin opIx (fVar 0) (fC (.int 2))) (fBin opMul (fC (.int 15487469)) (fBin opIx (fVar 0) (fC (.int 3))))) (fC (.int 179426081))) (fC (.int 5))) aNil)) (fC (.int 2147483647)))) (fRet (fBin opMod (fCall (op1 opInt) (aCons (fBin opDiv (fBin opMod (fCall (op1 opInt) (aCons (fBin opPow (fBin opAdd (fBin opMul (fVar 3) (fC (.int 48271))) (fBin opMul (fC (.int 104743)) (fBin opIx (fVar 0) (fC (.int 3))))) (fC (.int 3))) aNil)) (fC (.int 2147483587))) (fC (.int 64))) aNil)) (fVar 1)))))
def m__law_take : Mean := fnM false 2 4 b__law_take
theorem ok__law_take (Z : Zf K mg) : DefOk P w K mg base (He.ga K) 1 "_law_take" s41 ["box", "many"] m__law_take :=
  def_ok (k := 0) (fb := b__law_take) false 2 4 rfl rfl Z.d_41 sc__law_take fun f cdv A outer s H E hr =>
    dss_cons (ds_if (dt_w (dw_and (dt_tru (de_ix hr.u1 (de_var (i := 0)) de_int)) (dw_and1 (dt_cmp suits_gt (de_ix hr.u1 (de_var (i := 0)) de_int) de_int (by rfl))))) (dss_cons (ds_set (i := 2) sc__law_take.nd (de_bin suits_mod (de_callTy suits_int_ rfl Z.b_int boot_int (da_cons (de_ix hr.u1 (de_var (i := 0)) de_int) da_nil)) (de_var (i := 1)))) (dss_cons (ds_store hr.u1 (de_var (i := 0)) de_int (de_bin suits_div (de_ix hr.u1 (de_var (i := 0)) de_int) (de_var (i := 1)))) (dss_one (ds_ret (de_var (i := 2)))))) dss_nil) (dss_cons (ds_store hr.u1 (de_var (i := 0)) de_int (de_bin suits_add (de_ix hr.u1 (de_var (i := 0)) de_int) de_int)) (dss_cons (ds_set (i := 3) sc__law_take.nd (de_bin suits_mod (de_callTy suits_int_ rfl Z.b_int boot_int (da_cons (de_bin suits_pow (de_bin suits_add (de_bin suits_add (de_ix hr.u1 (de_var (i := 0)) de_int) (de_bin suits_mul de_int (de_ix hr.u1 (de_var (i := 0)) de_int))) de_int) de_int) da_nil)) de_int)) (dss_one (ds_ret (de_bin suits_mod (de_callTy suits_int_ rfl Z.b_int boot_int (da_cons (de_bin suits_div (de_bin suits_mod (de_callTy suits_int_ rfl Z.b_int boot_int (da_cons (de_bin suits_pow (de_bin suits_add (de_bin suits_mul (de_var (i := 3)) de_int) (de_bin suits_mul de_int (de_ix hr.u1 (de_var (i := 0)) de_int))) de_int) da_nil)) de_int) de_int) da_nil)) (de_var (i := 1)))))))
theorem sc__law_same : FnScope ["told", "due", "same", "k"] ["told", "due"] (defScope s42) := ⟨rfl, rfl, rfl, by decide +kernel, rfl, by decide +kernel, by decide +kernel⟩
def b__law_same (self : Mean) : FS := fSeq (fIfS (tfOr (fB (fBin opIs (fVar 1) (fC .non))) (fTr (f1 (isiD CS ["bool"]) (fVar 1)))) (fRet (fIf (fB (fBin opIs (fVar 1) (fC .non))) (fBin opIs (fVar 0) (fC .non)) (fAnd (f1 (isiD CS ["bool"]) (fVar 0)) (fBin opEq (fBin opIs (fVar 0) (fC (.bl true))) (fBin opIs (fVar 1) (fC (.bl true))))))) fNext) (fSeq (fIfS (fTr (f1 (isiD CS ["int"]) (fVar 1))) (fRet (fAnd (f1 (isiD CS ["int"]) (fVar 0)) (fAnd (fNotT (fTr (f1 (isiD CS ["bool"]) (fVar 0)))) (fBin opEq (fBin opSub (fCall (op1 opInt) (aCons (fVar 0) aNil)) (fVar 1)) (fC (.int 0)))))) fNext) (fSeq (fIfS (fTr (f1 (isiD CS ["str"]) (fVar 1))) (fSeq (fSet 2 (fAnd (f1 (isiD CS ["str"]) (fVar 0)) (fBin opEq (fCall (op1 opLen) (aCons (fVar 0) aNil)) (fCall (op1 opLen) (aCons (fVar 1) aNil))))) (fRet (fAnd (fVar 2) (fBin opEq (fLc (fRng1 (aCons (fCall (op1 opLen) (aCons (fVar 1) aNil)) aNil)) [3] (tName 3) (fB (fBin opNe (fSl (fVar 0) (oSome (fVar 3)) (oSome (fBin opAdd (fVar 3) (fC (.int 1))))) (fBin opIx (fVar 1) (fVar 3)))) (fVar 3)) (fLst aNil))))) fNext) (fSeq (fIfS (tfOr (fB (fBin opNe (f1 (isiD CS ["list"]) (fVar 0)) (f1 (isiD CS ["list"]) (fVar 1)))) (fB (fBin opNe (f1 (isiD CS ["tuple"]) (fVar 0)) (f1 (isiD CS ["tuple"]) (fVar 1))))) (fRet (fC (.bl false))) fNext) (fSeq (fIfS (tfOr (tfNot (fTr (f1 (isiD CS ["list", "tuple"]) (fVar 0)))) (fB (fBin opNe (fCall (op1 opLen) (aCons (fVar 0) aNil)) (fCall (op1 opLen) (aCons (fVar 1) aNil))))) (fRet (fC (.bl false))) fNext) (fRet (fBin opEq (fLc (fRng1 (aCons (fCall (op1 opLen) (aCons (fVar 1) aNil)) aNil)) [3] (tName 3) (tfNot (fTr (fApp self (aCons (fBin opIx (fVar 0) (fVar 3)) (aCons (fBin opIx (fVar 1) (fVar 3)) aNil))))) (fVar 3)) (fLst aNil)))))))
def m__law_same : Nat → Mean
  | 0 => fun _ _ => .st
  | n + 1 => fnM false 2 4 (b__law_same (m__law_same n))
theorem ar__law_same : ∀ n, Ar 2 (m__law_same n)
  | 0 => fun _ _ _ => rfl
  | _ + 1 => ar_fnM
theorem ok__law_same (Z : Zf K mg) : ∀ n, DefOk P w K mg base (He.ga K) (1 + n) "_law_same" s42 ["told", "due"] (m__law_same n)
  | 0 => def_no Z.d_42
  | n + 1 => by
    have hself := ok__law_same Z n
    have ars := ar__law_same n
    exact def_ok (k := 1 + n) false 2 4 rfl rfl Z.d_42 sc__law_same fun f cdv A outer s H E hr =>
      dss_cons (ds_if (dt_w (dw_or (dt_cmp suits_is (de_var (i := 1)) de_non (by rfl)) (dw_or1 (dt_tru (de_isi Z.tab (T := "bool") (by decide) rfl Z.b_isinstance (de_var (i := 1)) rfl Z.b_bool boot_bool))))) (dss_one (ds_ret (de_if (dt_cmp suits_is (de_var (i := 1)) de_non (by rfl)) (de_cmp suits_is (de_var (i := 0)) de_non (by rfl)) (de_and (de_isi Z.tab (T := "bool") (by decide) rfl Z.b_isinstance (de_var (i := 0)) rfl Z.b_bool boot_bool) (de_one (de_cmp (suits_eq hr.units) (de_cmp suits_is (de_var (i := 0)) de_bl (by rfl)) (de_cmp suits_is (de_var (i := 1)) de_bl (by rfl)) (nomark _))))))) dss_nil) (dss_cons (ds_if (dt_tru (de_isi Z.tab (T := "int") (by decide) rfl Z.b_isinstance (de_var (i := 1)) rfl Z.b_int boot_int)) (dss_one (ds_ret (de_and (de_isi Z.tab (T := "int") (by decide) rfl Z.b_isinstance (de_var (i := 0)) rfl Z.b_int boot_int) (de_and (de_notT (de_isi Z.tab (T := "bool") (by decide) rfl Z.b_isinstance (de_var (i := 0)) rfl Z.b_bool boot_bool)) (de_one (de_cmp (suits_eq hr.units) (de_bin suits_sub (de_callTy suits_int_ rfl Z.b_int boot_int (da_cons (de_var (i := 0)) da_nil)) (de_var (i := 1))) de_int (nomark _))))))) dss_nil) (dss_cons (ds_if (dt_tru (de_isi Z.tab (T := "str") (by decide) rfl Z.b_isinstance (de_var (i := 1)) rfl Z.b_str boot_str)) (dss_cons (ds_set (i := 2) sc__law_same.nd (de_and (de_isi Z.tab (T := "str") (by decide) rfl Z.b_isinstance (de_var (i := 0)) rfl Z.b_str boot_str) (de_one (de_cmp (suits_eq hr.units) (de_callB suits_len rfl Z.b_len boot_len (da_cons (de_var (i := 0)) da_nil)) (de_callB suits_len rfl Z.b_len boot_len (da_cons (de_var (i := 1)) da_nil)) (nomark _))))) (dss_one (ds_ret (de_and (de_var (i := 2)) (de_one (de_cmp (suits_eq hr.units) (de_lc [("k", 3)] rfl sc__law_same.nd (di_rng1 rfl Z.b_range (da_cons (de_callB suits_len rfl Z.b_len boot_len (da_cons (de_var (i := 1)) da_nil)) da_nil)) (blkOk_by (by kernel_rfl)) (fun s H C cl fp => dg_name (i := 3) sc__law_same.nd) (fun s H C cl fp => dts_one (dt_cmp (suits_ne hr.units) (de_sl (de_var (i := 0)) (do_some (de_var (i := 3))) (do_some (de_bin suits_add (de_var (i := 3)) de_int))) (de_ix hr.u1 (de_var (i := 1)) (de_var (i := 3))) (nomark _))) (fun s H C cl fp => de_var (i := 3))) (de_lst da_nil) (nomark _))))))) dss_nil) (dss_cons (ds_if (dt_w (dw_or (dt_cmp (suits_ne hr.units) (de_isi Z.tab (T := "list") (by decide) rfl Z.b_isinstance (de_var (i := 0)) rfl Z.b_list boot_list) (de_isi Z.tab (T := "list") (by decide) rfl Z.b_isinstance (de_var (i := 1)) rfl Z.b_list boot_list) (nomark _)) (dw_or1 (dt_cmp (suits_ne hr.units) (de_isi Z.tab (T := "tuple") (by decide) rfl Z.b_isinstance (de_var (i := 0)) rfl Z.b_tuple boot_tuple) (de_isi Z.tab (T := "tuple") (by decide) rfl Z.b_isinstance (de_var (i := 1)) rfl Z.b_tuple boot_tuple) (nomark _))))) (dss_one (ds_ret de_bl)) dss_nil) (dss_cons (ds_if (dt_w (dw_or (dt_not (dt_tru (de_isi2 Z.tab (T := "list") (U := "tuple") (by decide) (by decide) rfl Z.b_isinstance (de_var (i := 0)) rfl Z.b_list boot_list rfl Z.b_tuple boot_tuple))) (dw_or1 (dt_cmp (suits_ne hr.units) (de_callB suits_len rfl Z.b_len boot_len (da_cons (de_var (i := 0)) da_nil)) (de_callB suits_len rfl Z.b_len boot_len (da_cons (de_var (i := 1)) da_nil)) (nomark _))))) (dss_one (ds_ret de_bl)) dss_nil) (dss_one (ds_ret (de_cmp (suits_eq hr.units) (de_lc [("k", 3)] rfl sc__law_same.nd (di_rng1 rfl Z.b_range (da_cons (de_callB suits_len rfl Z.b_len boot_len (da_cons (de_var (i := 1)) da_nil)) da_nil)) (blkOk_by (by kernel_rfl)) (fun s H C cl fp => dg_name (i := 3) sc__law_same.nd) (fun s H C cl fp => dts_one (dt_not (dt_tru (de_callX hself takes0 hr (da_cons (de_ix hr.u1 (de_var (i := 0)) (de_var (i := 3))) (da_cons (de_ix hr.u1 (de_var (i := 1)) (de_var (i := 3))) da_nil)) (Nat.le_refl _) ars)))) (fun s H C cl fp => de_var (i := 3))) (de_lst da_nil) (nomark _))))))))
theorem sc__law_mixed : FnScope ["box", "items", "left", "found", "turn"] ["box", "items"] (defScope s43) := ⟨rfl, rfl, rfl, by decide +kernel, rfl, by decide +kernel, by decide +kernel⟩
def b__law_mixed : FS := fSeq (fPar 2 3 (fCall (op1 opListC) (aCons (fVar 1) aNil)) (fLstC aNil)) (fSeq (fFor (fRng1 (aCons (fCall (op1 opLen) (aCons (fVar 1) aNil)) aNil)) (tName 4) (fExpr (fML opAppend (fVar 3) (aCons (fML opPopAt (fVar 2) (aCons (fApp m__law_take (aCons (fVar 0) (aCons (fCall (op1 opLen) (aCons (fVar 2) aNil)) aNil))) aNil)) aNil)))) (fRet (fFz (fVar 3))))
def m__law_mixed : Mean := fnM false 2 5 b__law_mixed
theorem ok__law_mixed (Z : Zf K mg) : DefOk P w K mg base (He.ga K) 2 "_law_mixed" s43 ["box", "items"] m__law_mixed :=
  def_ok (k := 1) (fb := b__law_mixed) false 2 5 rfl rfl Z.d_43 sc__law_mixed fun f cdv A outer s H E hr =>
    dss_cons (ds_par (i := 2) (j := 3) rfl sc__law_mixed.nd (de_callTy suits_listC rfl Z.b_list boot_list (da_cons (de_var (i := 1)) da_nil)) (de_lstC da_nil)) (dss_cons (ds_for ppF rfl (di_rng1 rfl Z.b_range (da_cons (de_callB suits_len rfl Z.b_len boot_len (da_cons (de_var (i := 1)) da_nil)) da_nil)) (dg_name (i := 4) sc__law_mixed.nd) (dss_one (ds_expr (de_append (de_var (i := 3)) (da_cons (de_popAt (de_var (i := 2)) (da_cons (de_callX (ok__law_take Z) tkF hr (da_cons (de_var (i := 0)) (da_cons (de_callB suits_len rfl Z.b_len boot_len (da_cons (de_var (i := 2)) da_nil)) da_nil))) da_nil)) da_nil))))) (dss_one (ds_ret (de_fz (de_var (i := 3))))))
theorem sc__law_word : FnScope ["box", "many", "k"] ["box", "many"] (defScope s44) := ⟨rfl, rfl, rfl, by decide +kernel, rfl, by decide +kernel, by decide +kernel⟩
def b__law_word : FS := fRet (fM1 opJoin isStr (fC (.str "")) (fLc (fRng1 (aCons (fVar 1) aNil)) [2] (tName 2) fYes (fBin opIx (fC (.str "01")) (fApp m__law_take (aCons (fVar 0) (aCons (fC (.int 2)) aNil))))))
def m__law_word : Mean := fnM false 2 3 b__law_word
theorem ok__law_word (Z : Zf K mg) : DefOk P w K mg base (He.ga K) 2 "_law_word" s44 ["box", "many"] m__law_word :=
  def_ok (k := 1) (fb := b__law_word) false 2 3 rfl rfl Z.d_44 sc__law_word fun f cdv A outer s H E hr =>
    dss_one (ds_ret (de_join de_str (de_lc [("k", 2)] rfl sc__law_word.nd (di_rng1 rfl Z.b_range (da_cons (de_var (i := 1)) da_nil)) (blkOk_by (by kernel_rfl)) (fun s H C cl fp => dg_name (i := 2) sc__law_word.nd) (fun s H C cl fp => dts_nil) (fun s H C cl fp => de_ix hr.u1 de_str (de_callX (ok__law_take Z) takes0 hr (da_cons (de_var (i := 0)) (da_cons de_int da_nil)))))))
theorem sc__law_in : FnScope ["one", "other", "k"] ["one", "other"] (defScope s45) := ⟨rfl, rfl, rfl, by decide +kernel, rfl, by decide +kernel, by decide +kernel⟩
def b__law_in : FS := fRet (fBin opEq (fLc (fRng1 (aCons (fCall (op1 opLen) (aCons (fVar 0) aNil)) aNil)) [2] (tName 2) (tfAnd (fB (fBin opEq (fBin opIx (fVar 0) (fVar 2)) (fC (.str "1")))) (fB (fBin opEq (fBin opIx (fVar 1) (fVar 2)) (fC (.str "0"))))) (fVar 2)) (fLst aNil))
def m__law_in : Mean := fnM false 2 3 b__law_in
theorem ok__law_in (Z : Zf K mg) : DefOk P w K mg base (He.ga K) 1 "_law_in" s45 ["one", "other"] m__law_in :=
  def_ok (k := 0) (fb := b__law_in) false 2 3 rfl rfl Z.d_45 sc__law_in fun f cdv A outer s H E hr =>
    dss_one (ds_ret (de_cmp (suits_eq hr.units) (de_lc [("k", 2)] rfl sc__law_in.nd (di_rng1 rfl Z.b_range (da_cons (de_callB suits_len rfl Z.b_len boot_len (da_cons (de_var (i := 0)) da_nil)) da_nil)) (blkOk_by (by kernel_rfl)) (fun s H C cl fp => dg_name (i := 2) sc__law_in.nd) (fun s H C cl fp => dts_one (dt_w (dw_and (dt_cmp (suits_eq hr.units) (de_ix hr.u1 (de_var (i := 0)) (de_var (i := 2))) de_str (nomark _)) (dw_and1 (dt_cmp (suits_eq hr.units) (de_ix hr.u1 (de_var (i := 1)) (de_var (i := 2))) de_str (nomark _)))))) (fun s H C cl fp => de_var (i := 2))) (de_lst da_nil) (nomark _)))
theorem sc__law_drawn : FnScope ["box", "ins", "latches", "gates", "outs", "nots", "first", "rows", "k", "many", "kind", "size", "turn", "wires", "nexts"] ["box", "ins", "latches", "gates", "outs", "nots"] (defScope s46) := ⟨rfl, rfl, rfl, by decide +kernel, rfl, by decide +kernel, by decide +kernel⟩
def b__law_drawn : FS := fSeq (fPar 6 7 (fApp m__law_word (aCons (fVar 0) (aCons (fVar 2) aNil))) (fLstC aNil)) (fSeq (fFor (fRng1 (aCons (fVar 3) aNil)) (tName 8) (fSeq (fSet 9 (fBin opAdd (fBin opAdd (fVar 1) (fVar 2)) (fVar 8))) (fSeq (fSet 10 (fIf (tfAnd (fB (fBin opGt (fVar 9) (fC (.int 0)))) (fB (fBin opLt (fApp m__law_take (aCons (fVar 0) (aCons (fC (.int 12)) aNil))) (fVar 5)))) (fC (.str "not")) (fBin opIx (fLst (aCons (fC (.str "and")) (aCons (fC (.str "or")) aNil))) (fApp m__law_take (aCons (fVar 0) (aCons (fC (.int 2)) aNil)))))) (fSeq (fSet 11 (fIf (fB (fBin opEq (fVar 10) (fC (.str "not")))) (fC (.int 1)) (fIf (fB (fBin opGt (fVar 9) (fC (.int 0)))) (fBin opIx (fLst (aCons (fC (.int 2)) (aCons (fC (.int 1)) (aCons (fC (.int 2)) (aCons (fC (.int 0)) (aCons (fC (.int 2)) (aCons (fC (.int 3)) aNil))))))) (fApp m__law_take (aCons (fVar 0) (aCons (fC (.int 6)) aNil)))) (fC (.int 0))))) (fExpr (fML opAppend (fVar 7) (aCons (fTup (aCons (fVar 10) (aCons (fCall (op1 opTuple) (aCons (fLc (fRng1 (aCons (fVar 11) aNil)) [12] (tName 12) fYes (fBin opSub (fBin opSub (fVar 9) (fC (.int 1))) (fApp m__law_take (aCons (fVar 0) (aCons (fCall (op2 opMin2) (aCons (fVar 9) (aCons (fC (.int 5)) aNil))) aNil))))) aNil)) aNil))) aNil))))))) (fSeq (fSet 13 (fBin opAdd (fBin opAdd (fVar 1) (fVar 2)) (fVar 3))) (fSeq (fSet 14 (fCall (op1 opTuple) (aCons (fLc (fRng1 (aCons (fVar 2) aNil)) [8] (tName 8) fYes (fBin opSub (fBin opSub (fVar 13) (fC (.int 1))) (fApp m__law_take (aCons (fVar 0) (aCons (fVar 13) aNil))))) aNil))) (fRet (fLst (aCons (fVar 1) (aCons (fVar 6) (aCons (fCall (op1 opTuple) (aCons (fVar 7) aNil)) (aCons (fVar 14) (aCons (fCall (op1 opTuple) (aCons (fLc (fRng1 (aCons (fIf (fB (fBin opGt (fVar 13) (fC (.int 0)))) (fVar 4) (fC (.int 0))) aNil)) [8] (tName 8) fYes (fBin opSub (fBin opSub (fVar 13) (fC (.int 1))) (fApp m__law_take (aCons (fVar 0) (aCons (fVar 13) aNil))))) aNil)) aNil))))))))))
def m__law_drawn : Mean := fnM false 6 15 b__law_drawn
theorem ok__law_drawn (Z : Zf K mg) : DefOk P w K mg base (He.ga K) 3 "_law_drawn" s46 ["box", "ins", "latches", "gates", "outs", "nots"] m__law_drawn :=
  def_ok (k := 2) (fb := b__law_drawn) false 6 15 rfl rfl Z.d_46 sc__law_drawn fun f cdv A outer s H E hr =>
    dss_cons (ds_par (i := 6) (j := 7) rfl sc__law_drawn.nd (de_callX (ok__law_word Z) tkF hr (da_cons (de_var (i := 0)) (da_cons (de_var (i := 2)) da_nil))) (de_lstC da_nil)) (dss_cons (ds_for ppF rfl (di_rng1 rfl Z.b_range (da_cons (de_var (i := 3)) da_nil)) (dg_name (i := 8) sc__law_drawn.nd) (dss_cons (ds_set (i := 9) sc__law_drawn.nd (de_bin suits_add (de_bin suits_add (de_var (i := 1)) (de_var (i := 2))) (de_var (i := 8)))) (dss_cons (ds_set (i := 10) sc__law_drawn.nd (de_if (dt_w (dw_and (dt_cmp suits_gt (de_var (i := 9)) de_int (by rfl)) (dw_and1 (dt_cmp suits_lt (de_callX (ok__law_take Z) tkF hr (da_cons (de_var (i := 0)) (da_cons de_int da_nil))) (de_var (i := 5)) (by rfl))))) de_str (de_ix hr.u1 (de_lst (da_cons de_str (da_cons de_str da_nil))) (de_callX (ok__law_take Z) tkF hr (da_cons (de_var (i := 0)) (da_cons de_int da_nil)))))) (dss_cons (ds_set (i := 11) sc__law_drawn.nd (de_if (dt_cmp (suits_eq hr.units) (de_var (i := 10)) de_str (nomark _)) de_int (de_if (dt_cmp suits_gt (de_var (i := 9)) de_int (by rfl)) (de_ix hr.u1 (de_lst (da_cons de_int (da_cons de_int (da_cons de_int (da_cons de_int (da_cons de_int (da_cons de_int da_nil))))))) (de_callX (ok__law_take Z) tkF hr (da_cons (de_var (i := 0)) (da_cons de_int da_nil)))) de_int))) (dss_one (ds_expr (de_append (de_var (i := 7)) (da_cons (de_tup (da_cons (de_var (i := 10)) (da_cons (de_callTy suits_tuple rfl Z.b_tuple boot_tuple (da_cons (de_lc [("turn", 12)] rfl sc__law_drawn.nd (di_rng1 rfl Z.b_range (da_cons (de_var (i := 11)) da_nil)) (blkOk_by (by kernel_rfl)) (fun s H C cl fp => dg_name (i := 12) sc__law_drawn.nd) (fun s H C cl fp => dts_nil) (fun s H C cl fp => de_bin suits_sub (de_bin suits_sub (de_var (i := 9)) de_int) (de_callX (ok__law_take Z) takes0 hr (da_cons (de_var (i := 0)) (da_cons (de_callB (suits_min2 rfl) rfl Z.b_min boot_min (da_cons (de_var (i := 9)) (da_cons de_int da_nil))) da_nil))))) da_nil)) da_nil))) da_nil)))))))) (dss_cons (ds_set (i := 13) sc__law_drawn.nd (de_bin suits_add (de_bin suits_add (de_var (i := 1)) (de_var (i := 2))) (de_var (i := 3)))) (dss_cons (ds_set (i := 14) sc__law_drawn.nd (de_callTy suits_tuple rfl Z.b_tuple boot_tuple (da_cons (de_lc [("k", 8)] rfl sc__law_drawn.nd (di_rng1 rfl Z.b_range (da_cons (de_var (i := 2)) da_nil)) (blkOk_by (by kernel_rfl)) (fun s H C cl fp => dg_name (i := 8) sc__law_drawn.nd) (fun s H C cl fp => dts_nil) (fun s H C cl fp => de_bin suits_sub (de_bin suits_sub (de_var (i := 13)) de_int) (de_callX (ok__law_take Z) takes0 hr (da_cons (de_var (i := 0)) (da_cons (de_var (i := 13)) da_nil))))) da_nil))) (dss_one (ds_ret (de_lst (da_cons (de_var (i := 1)) (da_cons (de_var (i := 6)) (da_cons (de_callTy suits_tuple rfl Z.b_tuple boot_tuple (da_cons (de_var (i := 7)) da_nil)) (da_cons (de_var (i := 14)) (da_cons (de_callTy suits_tuple rfl Z.b_tuple boot_tuple (da_cons (de_lc [("k", 8)] rfl sc__law_drawn.nd (di_rng1 rfl Z.b_range (da_cons (de_if (dt_cmp suits_gt (de_var (i := 13)) de_int (by rfl)) (de_var (i := 4)) de_int) da_nil)) (blkOk_by (by kernel_rfl)) (fun s H C cl fp => dg_name (i := 8) sc__law_drawn.nd) (fun s H C cl fp => dts_nil) (fun s H C cl fp => de_bin suits_sub (de_bin suits_sub (de_var (i := 13)) de_int) (de_callX (ok__law_take Z) takes0 hr (da_cons (de_var (i := 0)) (da_cons (de_var (i := 13)) da_nil))))) da_nil)) da_nil)))))))))))
theorem sc__law_made : FnScope ["net"] ["net"] (defScope s47) := ⟨rfl, rfl, rfl, by decide +kernel, rfl, by decide +kernel, by decide +kernel⟩
def b__law_made : FS := fRet (fMake "Net" m_Net_init (aCons (fBin opIx (fVar 0) (fC (.int 0))) (aCons (fBin opIx (fVar 0) (fC (.int 1))) (aCons (fBin opIx (fVar 0) (fC (.int 2))) (aCons (fBin opIx (fVar 0) (fC (.int 3))) (aCons (fBin opIx (fVar 0) (fC (.int 4))) aNil))))))
def m__law_made : Mean := fnM false 1 1 b__law_made
theorem ok__law_made (Z : Zf K mg) : DefOk P w K mg base (He.ga K) 9 "_law_made" s47 ["net"] m__law_made :=
  def_ok (k := 8) (fb := b__law_made) false 1 1 rfl rfl Z.d_47 sc__law_made fun f cdv A outer s H E hr =>
    dss_one (ds_ret (de_makeX 6 (mk_Net_init Z) tkF hr (da_cons (de_ix hr.u1 (de_var (i := 0)) de_int) (da_cons (de_ix hr.u1 (de_var (i := 0)) de_int) (da_cons (de_ix hr.u1 (de_var (i := 0)) de_int) (da_cons (de_ix hr.u1 (de_var (i := 0)) de_int) (da_cons (de_ix hr.u1 (de_var (i := 0)) de_int) da_nil)))))))
theorem sc__law_branches : FnScope ["net", "found", "k", "g", "i"] ["net"] (defScope s48) := ⟨rfl, rfl, rfl, by decide +kernel, rfl, by decide +kernel, by decide +kernel⟩
def b__law_branches : FS := fSeq (fSet 1 (fBin opAdd (fLc (fRng1 (aCons (fCall (op1 opLen) (aCons (fBin opIx (fVar 0) (fC (.int 3))) aNil)) aNil)) [2] (tName 2) fYes (fTup (aCons (fC (.str "next")) (aCons (fVar 2) aNil)))) (fLc (fRng1 (aCons (fCall (op1 opLen) (aCons (fBin opIx (fVar 0) (fC (.int 4))) aNil)) aNil)) [2] (tName 2) fYes (fTup (aCons (fC (.str "out")) (aCons (fVar 2) aNil)))))) (fSeq (fFor (fRng1 (aCons (fCall (op1 opLen) (aCons (fBin opIx (fVar 0) (fC (.int 2))) aNil)) aNil)) (tName 3) (fSet 1 (fBin opAdd (fVar 1) (fLc (fRng1 (aCons (fCall (op1 opLen) (aCons (fBin opIx (fBin opIx (fBin opIx (fVar 0) (fC (.int 2))) (fVar 3)) (fC (.int 1))) aNil)) aNil)) [4] (tName 4) fYes (fTup (aCons (fC (.str "gate")) (aCons (fVar 3) (aCons (fVar 4) aNil)))))))) (fRet (fCall (op1 opSorted) (aCons (fVar 1) aNil))))
def m__law_branches : Mean := fnM false 1 5 b__law_branches
theorem ok__law_branches (Z : Zf K mg) : DefOk P w K mg base (He.ga K) 1 "_law_branches" s48 ["net"] m__law_branches :=
  def_ok (k := 0) (fb := b__law_branches) false 1 5 rfl rfl Z.d_48 sc__law_branches fun f cdv A outer s H E hr =>
    dss_cons (ds_set (i := 1) sc__law_branches.nd (de_bin suits_add (de_lc [("k", 2)] rfl sc__law_branches.nd (di_rng1 rfl Z.b_range (da_cons (de_callB suits_len rfl Z.b_len boot_len (da_cons (de_ix hr.u1 (de_var (i := 0)) de_int) da_nil)) da_nil)) (blkOk_by (by kernel_rfl)) (fun s H C cl fp => dg_name (i := 2) sc__law_branches.nd) (fun s H C cl fp => dts_nil) (fun s H C cl fp => de_tup (da_cons de_str (da_cons (de_var (i := 2)) da_nil)))) (de_lc [("k", 2)] rfl sc__law_branches.nd (di_rng1 rfl Z.b_range (da_cons (de_callB suits_len rfl Z.b_len boot_len (da_cons (de_ix hr.u1 (de_var (i := 0)) de_int) da_nil)) da_nil)) (blkOk_by (by kernel_rfl)) (fun s H C cl fp => dg_name (i := 2) sc__law_branches.nd) (fun s H C cl fp => dts_nil) (fun s H C cl fp => de_tup (da_cons de_str (da_cons (de_var (i := 2)) da_nil)))))) (dss_cons (ds_for ppF rfl (di_rng1 rfl Z.b_range (da_cons (de_callB suits_len rfl Z.b_len boot_len (da_cons (de_ix hr.u1 (de_var (i := 0)) de_int) da_nil)) da_nil)) (dg_name (i := 3) sc__law_branches.nd) (dss_one (ds_set (i := 1) sc__law_branches.nd (de_bin suits_add (de_var (i := 1)) (de_lc [("i", 4)] rfl sc__law_branches.nd (di_rng1 rfl Z.b_range (da_cons (de_callB suits_len rfl Z.b_len boot_len (da_cons (de_ix hr.u1 (de_ix hr.u1 (de_ix hr.u1 (de_var (i := 0)) de_int) (de_var (i := 3))) de_int) da_nil)) da_nil)) (blkOk_by (by kernel_rfl)) (fun s H C cl fp => dg_name (i := 4) sc__law_branches.nd) (fun s H C cl fp => dts_nil) (fun s H C cl fp => de_tup (da_cons de_str (da_cons (de_var (i := 3)) (da_cons (de_var (i := 4)) da_nil))))))))) (dss_one (ds_ret (de_callB suits_sorted rfl Z.b_sorted boot_sorted (da_cons (de_var (i := 1)) da_nil)))))
theorem sc__law_places : FnScope ["net", "w"] ["net"] (defScope s49) := ⟨rfl, rfl, rfl, by decide +kernel, rfl, by decide +kernel, by decide +kernel⟩
def b__law_places : FS := fRet (fBin opAdd (fApp m__law_branches (aCons (fVar 0) aNil)) (fLc (fRng1 (aCons (fBin opAdd (fBin opAdd (fBin opIx (fVar 0) (fC (.int 0))) (fCall (op1 opLen) (aCons (fBin opIx (fVar 0) (fC (.int 1))) aNil))) (fCall (op1 opLen) (aCons (fBin opIx (fVar 0) (fC (.int 2))) aNil))) aNil)) [1] (tName 1) fYes (fTup (aCons (fC (.str "wire")) (aCons (fVar 1) aNil)))))
def m__law_places : Mean := fnM false 1 2 b__law_places
theorem ok__law_places (Z : Zf K mg) : DefOk P w K mg base (He.ga K) 2 "_law_places" s49 ["net"] m__law_places :=
  def_ok (k := 1) (fb := b__law_places) false 1 2 rfl rfl Z.d_49 sc__law_places fun f cdv A outer s H E hr =>
    dss_one (ds_ret (de_bin suits_add (de_callX (ok__law_branches Z) tkF hr (da_cons (de_var (i := 0)) da_nil)) (de_lc [("w", 1)] rfl sc__law_places.nd (di_rng1 rfl Z.b_range (da_cons (de_bin suits_add (de_bin suits_add (de_ix hr.u1 (de_var (i := 0)) de_int) (de_callB suits_len rfl Z.b_len boot_len (da_cons (de_ix hr.u1 (de_var (i := 0)) de_int) da_nil))) (de_callB suits_len rfl Z.b_len boot_len (da_cons (de_ix hr.u1 (de_var (i := 0)) de_int) da_nil))) da_nil)) (blkOk_by (by kernel_rfl)) (fun s H C cl fp => dg_name (i := 1) sc__law_places.nd) (fun s H C cl fp => dts_nil) (fun s H C cl fp => de_tup (da_cons de_str (da_cons (de_var (i := 1)) da_nil))))))
theorem sc__law_beat : FnScope ["net", "now", "given", "hurts", "signs", "k", "g", "kind", "wires", "taken", "i", "sign", "behind"] ["net", "now", "given", "hurts"] (defScope s50) := ⟨rfl, rfl, rfl, by decide +kernel, rfl, by decide +kernel, by decide +kernel⟩
def b__law_beat : FS := fSeq (fSet 4 (fLcC (fRng1 (aCons (fBin opIx (fVar 0) (fC (.int 0))) aNil)) [5] (tName 5) fYes (fGet2 (fVar 3) (fTup (aCons (fC (.str "wire")) (aCons (fVar 5) aNil))) (fCall (op1 opInt) (aCons (fBin opIx (fVar 2) (fVar 5)) aNil))))) (fSeq (fFor (fRng1 (aCons (fCall (op1 opLen) (aCons (fVar 1) aNil)) aNil)) (tName 5) (fExpr (fML opAppend (fVar 4) (aCons (fGet2 (fVar 3) (fTup (aCons (fC (.str "wire")) (aCons (fBin opAdd (fBin opIx (fVar 0) (fC (.int 0))) (fVar 5)) aNil))) (fCall (op1 opInt) (aCons (fBin opIx (fVar 1) (fVar 5)) aNil))) aNil)))) (fSeq (fFor (fRng1 (aCons (fCall (op1 opLen) (aCons (fBin opIx (fVar 0) (fC (.int 2))) aNil)) aNil)) (tName 6) (fSeq (fAsg (fBin opIx (fBin opIx (fVar 0) (fC (.int 2))) (fVar 6)) (tTupG 2 (tConsG (tName 7) (tConsG (tName 8) tNilG)))) (fSeq (fSet 9 (fLc (fRng1 (aCons (fCall (op1 opLen) (aCons (fVar 8) aNil)) aNil)) [10] (tName 10) fYes (fGet2 (fVar 3) (fTup (aCons (fC (.str "gate")) (aCons (fVar 6) (aCons (fVar 10) aNil)))) (fBin opIx (fVar 4) (fBin opIx (fVar 8) (fVar 10)))))) (fSeq (fSet 11 (fIf (fB (fBin opEq (fVar 7) (fC (.str "and")))) (fCall (op1 opMin1) (aCons (fBin opAdd (fVar 9) (fLst (aCons (fC (.int 1)) aNil))) aNil)) (fIf (fB (fBin opEq (fVar 7) (fC (.str "or")))) (fCall (op1 opMax1) (aCons (fBin opAdd (fVar 9) (fLst (aCons (fC (.int 0)) aNil))) aNil)) (fBin opSub (fC (.int 1)) (fBin opIx (fVar 9) (fC (.int 0))))))) (fExpr (fML opAppend (fVar 4) (aCons (fGet2 (fVar 3) (fTup (aCons (fC (.str "wire")) (aCons (fBin opAdd (fBin opAdd (fBin opIx (fVar 0) (fC (.int 0))) (fCall (op1 opLen) (aCons (fVar 1) aNil))) (fVar 6)) aNil))) (fVar 11)) aNil))))))) (fSeq (fSet 12 (fLc (fRng1 (aCons (fCall (op1 opLen) (aCons (fBin opIx (fVar 0) (fC (.int 3))) aNil)) aNil)) [5] (tName 5) fYes (fBin opIx (fC (.str "01")) (fGet2 (fVar 3) (fTup (aCons (fC (.str "next")) (aCons (fVar 5) aNil))) (fBin opIx (fVar 4) (fBin opIx (fBin opIx (fVar 0) (fC (.int 3))) (fVar 5))))))) (fRet (fTup (aCons (fM1 opJoin isStr (fC (.str "")) (fVar 12)) (aCons (fM1 opJoin isStr (fC (.str "")) (fLc (fRng1 (aCons (fCall (op1 opLen) (aCons (fBin opIx (fVar 0) (fC (.int 4))) aNil)) aNil)) [5] (tName 5) fYes (fBin opIx (fC (.str "01")) (fGet2 (fVar 3) (fTup (aCons (fC (.str "out")) (aCons (fVar 5) aNil))) (fBin opIx (fVar 4) (fBin opIx (fBin opIx (fVar 0) (fC (.int 4))) (fVar 5))))))) aNil)))))))
def m__law_beat : Mean := fnM false 4 13 b__law_beat
theorem ok__law_beat (Z : Zf K mg) : DefOk P w K mg base (He.ga K) 1 "_law_beat" s50 ["net", "now", "given", "hurts"] m__law_beat :=
  def_ok (k := 0) (fb := b__law_beat) false 4 13 rfl rfl Z.d_50 sc__law_beat fun f cdv A outer s H E hr =>
    dss_cons (ds_set (i := 4) sc__law_beat.nd (de_lcC [("k", 5)] rfl sc__law_beat.nd (di_rng1 rfl Z.b_range (da_cons (de_ix hr.u1 (de_var (i := 0)) de_int) da_nil)) (blkOk_by (by kernel_rfl)) (fun s H C cl fp => dg_name (i := 5) sc__law_beat.nd) (fun s H C cl fp => dts_nil) (fun s H C cl fp => de_get2 hr.u1 (de_var (i := 3)) (de_tup (da_cons de_str (da_cons (de_var (i := 5)) da_nil))) (de_callTy suits_int_ rfl Z.b_int boot_int (da_cons (de_ix hr.u1 (de_var (i := 2)) (de_var (i := 5))) da_nil))))) (dss_cons (ds_for ppF rfl (di_rng1 rfl Z.b_range (da_cons (de_callB suits_len rfl Z.b_len boot_len (da_cons (de_var (i := 1)) da_nil)) da_nil)) (dg_name (i := 5) sc__law_beat.nd) (dss_one (ds_expr (de_append (de_var (i := 4)) (da_cons (de_get2 hr.u1 (de_var (i := 3)) (de_tup (da_cons de_str (da_cons (de_bin suits_add (de_ix hr.u1 (de_var (i := 0)) de_int) (de_var (i := 5))) da_nil))) (de_callTy suits_int_ rfl Z.b_int boot_int (da_cons (de_ix hr.u1 (de_var (i := 1)) (de_var (i := 5))) da_nil))) da_nil))))) (dss_cons (ds_for ppF rfl (di_rng1 rfl Z.b_range (da_cons (de_callB suits_len rfl Z.b_len boot_len (da_cons (de_ix hr.u1 (de_var (i := 0)) de_int) da_nil)) da_nil)) (dg_name (i := 6) sc__law_beat.nd) (dss_cons (ds_asg (de_ix hr.u1 (de_ix hr.u1 (de_var (i := 0)) de_int) (de_var (i := 6))) (dg_tup rfl (dgs_cons (dg_name (i := 7) sc__law_beat.nd) (dgs_cons (dg_name (i := 8) sc__law_beat.nd) dgs_nil)))) (dss_cons (set_lcT [("i", 10)] rfl sc__law_beat.nd (di_rng1 rfl Z.b_range (da_cons (de_callB suits_len rfl Z.b_len boot_len (da_cons (de_var (i := 8)) da_nil)) da_nil)) (blkOk_by (by kernel_rfl)) (fun s H C cl fp => dg_name (i := 10) sc__law_beat.nd) (fun s H C cl fp => dts_nil) (fun s H C cl fp => de_get2 hr.u1 (de_var (i := 3)) (de_tup (da_cons de_str (da_cons (de_var (i := 6)) (da_cons (de_var (i := 10)) da_nil)))) (de_ix hr.u1 (de_var (i := 4)) (de_ix hr.u1 (de_var (i := 8)) (de_var (i := 10)))))) (dss_cons (ds_set (i := 11) sc__law_beat.nd (de_if (dt_cmp (suits_eq hr.units) (de_var (i := 7)) de_str (nomark _)) (de_callB (suits_min1 rfl) rfl Z.b_min boot_min (da_cons (de_bin suits_add (de_var (i := 9)) (de_lst (da_cons de_int da_nil))) da_nil)) (de_if (dt_cmp (suits_eq hr.units) (de_var (i := 7)) de_str (nomark _)) (de_callB (suits_max1 rfl) rfl Z.b_max boot_max (da_cons (de_bin suits_add (de_var (i := 9)) (de_lst (da_cons de_int da_nil))) da_nil)) (de_bin suits_sub de_int (de_ix hr.u1 (de_var (i := 9)) de_int))))) (dss_one (ds_expr (de_append (de_var (i := 4)) (da_cons (de_get2 hr.u1 (de_var (i := 3)) (de_tup (da_cons de_str (da_cons (de_bin suits_add (de_bin suits_add (de_ix hr.u1 (de_var (i := 0)) de_int) (de_callB suits_len rfl Z.b_len boot_len (da_cons (de_var (i := 1)) da_nil))) (de_var (i := 6))) da_nil))) (de_var (i := 11))) da_nil)))))))) (dss_cons (set_lcT [("k", 5)] rfl sc__law_beat.nd (di_rng1 rfl Z.b_range (da_cons (de_callB suits_len rfl Z.b_len boot_len (da_cons (de_ix hr.u1 (de_var (i := 0)) de_int) da_nil)) da_nil)) (blkOk_by (by kernel_rfl)) (fun s H C cl fp => dg_name (i := 5) sc__law_beat.nd) (fun s H C cl fp => dts_nil) (fun s H C cl fp => de_ix hr.u1 de_str (de_get2 hr.u1 (de_var (i := 3)) (de_tup (da_cons de_str (da_cons (de_var (i := 5)) da_nil))) (de_ix hr.u1 (de_var (i := 4)) (de_ix hr.u1 (de_ix hr.u1 (de_var (i := 0)) de_int) (de_var (i := 5))))))) (dss_one (ds_ret (de_tup (da_cons (de_join de_str (de_var (i := 12))) (da_cons (de_join de_str (de_lc [("k", 5)] rfl sc__law_beat.nd (di_rng1 rfl Z.b_range (da_cons (de_callB suits_len rfl Z.b_len boot_len (da_cons (de_ix hr.u1 (de_var (i := 0)) de_int) da_nil)) da_nil)) (blkOk_by (by kernel_rfl)) (fun s H C cl fp => dg_name (i := 5) sc__law_beat.nd) (fun s H C cl fp => dts_nil) (fun s H C cl fp => de_ix hr.u1 de_str (de_get2 hr.u1 (de_var (i := 3)) (de_tup (da_cons de_str (da_cons (de_var (i := 5)) da_nil))) (de_ix hr.u1 (de_var (i := 4)) (de_ix hr.u1 (de_ix hr.u1 (de_var (i := 0)) de_int) (de_var (i := 5)))))))) da_nil))))))))
theorem sc__law_run : FnScope ["net", "words", "hurts", "now", "found", "k", "out"] ["net", "words", "hurts"] (defScope s51) := ⟨rfl, rfl, rfl, by decide +kernel, rfl, by decide +kernel, by decide +kernel⟩
def b__law_run : FS := fSeq (fPar 3 4 (fBin opIx (fVar 0) (fC (.int 1))) (fLstC aNil)) (fSeq (fFor (fRng1 (aCons (fCall (op1 opLen) (aCons (fVar 1) aNil)) aNil)) (tName 5) (fSeq (fAsg (fApp m__law_beat (aCons (fVar 0) (aCons (fVar 3) (aCons (fBin opIx (fVar 1) (fVar 5)) (aCons (fCall (op1 opDict0) (aCons (fBin opIx (fVar 2) (fVar 5)) aNil)) aNil))))) (tTupG 2 (tConsG (tName 3) (tConsG (tName 6) tNilG)))) (fExpr (fML opAppend (fVar 4) (aCons (fVar 6) aNil))))) (fRet (fLst (aCons (fFz (fVar 4)) (aCons (fVar 3) aNil)))))
def m__law_run : Mean := fnM false 3 7 b__law_run
theorem ok__law_run (Z : Zf K mg) : DefOk P w K mg base (He.ga K) 2 "_law_run" s51 ["net", "words", "hurts"] m__law_run :=
  def_ok (k := 1) (fb := b__law_run) false 3 7 rfl rfl Z.d_51 sc__law_run fun f cdv A outer s H E hr =>
    dss_cons (ds_par (i := 3) (j := 4) rfl sc__law_run.nd (de_ix hr.u1 (de_var (i := 0)) de_int) (de_lstC da_nil)) (dss_cons (ds_for ppF rfl (di_rng1 rfl Z.b_range (da_cons (de_callB suits_len rfl Z.b_len boot_len (da_cons (de_var (i := 1)) da_nil)) da_nil)) (dg_name (i := 5) sc__law_run.nd) (dss_cons (ds_asg (de_callX (ok__law_beat Z) tkF hr (da_cons (de_var (i := 0)) (da_cons (de_var (i := 3)) (da_cons (de_ix hr.u1 (de_var (i := 1)) (de_var (i := 5))) (da_cons (de_callTy (suits_dict0 rfl) rfl Z.b_dict boot_dict (da_cons (de_ix hr.u1 (de_var (i := 2)) (de_var (i := 5))) da_nil)) da_nil))))) (dg_tup rfl (dgs_cons (dg_name (i := 3) sc__law_run.nd) (dgs_cons (dg_name (i := 6) sc__law_run.nd) dgs_nil)))) (dss_one (ds_expr (de_append (de_var (i := 4)) (da_cons (de_var (i := 6)) da_nil)))))) (dss_one (ds_ret (de_lst (da_cons (de_fz (de_var (i := 4))) (da_cons (de_var (i := 3)) da_nil))))))
theorem sc__law_end : FnScope ["net", "sign", "gates", "kind", "wires"] ["net", "sign"] (defScope s52) := ⟨rfl, rfl, rfl, by decide +kernel, rfl, by decide +kernel, by decide +kernel⟩
def b__law_end : FS := fSeq (fSet 2 (fLc (fItr (fBin opIx (fVar 0) (fC (.int 2)))) [3, 4] (tTupG 2 (tConsG (tName 3) (tConsG (tName 4) tNilG))) fYes (fIf (fB (fBin opEq (fVar 3) (fC (.str "not")))) (fTup (aCons (fBin opIx (fLst (aCons (fC (.str "and")) (aCons (fC (.str "or")) aNil))) (fVar 1)) (aCons (fTup aNil) aNil))) (fTup (aCons (fVar 3) (aCons (fVar 4) aNil)))))) (fRet (fLst (aCons (fBin opIx (fVar 0) (fC (.int 0))) (aCons (fBin opIx (fVar 0) (fC (.int 1))) (aCons (fCall (op1 opTuple) (aCons (fVar 2) aNil)) (aCons (fBin opIx (fVar 0) (fC (.int 3))) (aCons (fBin opIx (fVar 0) (fC (.int 4))) aNil)))))))
def m__law_end : Mean := fnM false 2 5 b__law_end
theorem ok__law_end (Z : Zf K mg) : DefOk P w K mg base (He.ga K) 1 "_law_end" s52 ["net", "sign"] m__law_end :=
  def_ok (k := 0) (fb := b__law_end) false 2 5 rfl rfl Z.d_52 sc__law_end fun f cdv A outer s H E hr =>
    dss_cons (set_lcT [("kind", 3), ("wires", 4)] rfl sc__law_end.nd (di_seq (de_ix hr.u1 (de_var (i := 0)) de_int)) (blkOk_by (by kernel_rfl)) (fun s H C cl fp => dg_tup rfl (dgs_cons (dg_name (i := 3) sc__law_end.nd) (dgs_cons (dg_name (i := 4) sc__law_end.nd) dgs_nil))) (fun s H C cl fp => dts_nil) (fun s H C cl fp => de_if (dt_cmp (suits_eq hr.units) (de_var (i := 3)) de_str (nomark _)) (de_tup (da_cons (de_ix hr.u1 (de_lst (da_cons de_str (da_cons de_str da_nil))) (de_var (i := 1))) (da_cons (de_tup da_nil) da_nil))) (de_tup (da_cons (de_var (i := 3)) (da_cons (de_var (i := 4)) da_nil))))) (dss_one (ds_ret (de_lst (da_cons (de_ix hr.u1 (de_var (i := 0)) de_int) (da_cons (de_ix hr.u1 (de_var (i := 0)) de_int) (da_cons (de_callTy suits_tuple rfl Z.b_tuple boot_tuple (da_cons (de_var (i := 2)) da_nil)) (da_cons (de_ix hr.u1 (de_var (i := 0)) de_int) (da_cons (de_ix hr.u1 (de_var (i := 0)) de_int) da_nil))))))))
theorem sc__law_asked : FnScope ["which", "args", "by_name", "told", "e"] ["which", "args", "by_name"] (defScope s53) := ⟨rfl, rfl, rfl, by decide +kernel, rfl, by decide +kernel, by decide +kernel⟩
def b__law_asked : FS := fSeq (fTry XS hit (⟨"InvalidNet", some 4, fun k c fs ds => fRet (fLst (aCons (fC (.str "net")) (aCons (fXf 4 k fs ds "given") aNil)))⟩ :: ⟨"InvalidWords", some 4, fun k c fs ds => fRet (fLst (aCons (fC (.str "words")) (aCons (fXf 4 k fs ds "given") aNil)))⟩ :: ⟨"InvalidSign", some 4, fun k c fs ds => fRet (fLst (aCons (fC (.str "sign")) (aCons (fXf 4 k fs ds "given") aNil)))⟩ :: ⟨"DarkError", none, fun k c fs ds => fRet (fLst (aCons (fC (.str "other")) (aCons (fC .non) aNil)))⟩ :: []) (fIfS (fB (fBin opEq (fVar 0) (fC (.int 0)))) (fSet 3 (fIf (fTr (fVar 2)) (fAppK m_is_plain [0] (aCons (fBin opIx (fVar 1) (fC (.int 0))) aNil)) (fApp m_is_plain (aCons (fBin opIx (fVar 1) (fC (.int 0))) aNil)))) (fIfS (fB (fBin opEq (fVar 0) (fC (.int 1)))) (fSet 3 (fIf (fTr (fVar 2)) (fAppK m_top [0] (aCons (fBin opIx (fVar 1) (fC (.int 0))) aNil)) (fApp m_top (aCons (fBin opIx (fVar 1) (fC (.int 0))) aNil)))) (fIfS (fB (fBin opEq (fVar 0) (fC (.int 2)))) (fSet 3 (fIf (fTr (fVar 2)) (fAppK m_bottom [0] (aCons (fBin opIx (fVar 1) (fC (.int 0))) aNil)) (fApp m_bottom (aCons (fBin opIx (fVar 1) (fC (.int 0))) aNil)))) (fIfS (fTr (fVar 2)) (fSet 3 (fAppK m_extreme [2, 1, 0] (aCons (fBin opIx (fVar 1) (fC (.int 2))) (aCons (fBin opIx (fVar 1) (fC (.int 1))) (aCons (fBin opIx (fVar 1) (fC (.int 0))) aNil))))) (fSet 3 (fApp m_extreme (aCons (fBin opIx (fVar 1) (fC (.int 0))) (aCons (fBin opIx (fVar 1) (fC (.int 1))) (aCons (fBin opIx (fVar 1) (fC (.int 2))) aNil)))))))))) (fRet (fLst (aCons (fC (.str "told")) (aCons (fVar 3) aNil))))
def m__law_asked : Mean := fnM false 3 5 b__law_asked
theorem ok__law_asked (Z : Zf K mg) : DefOk P w K mg base (He.ga K) 11 "_law_asked" s53 ["which", "args", "by_name"] m__law_asked :=
  def_ok (k := 10) (fb := b__law_asked) false 3 5 rfl rfl Z.d_53 sc__law_asked fun f cdv A outer s H E hr =>
    dss_cons (ds_try rfl rfl sc__law_asked.nd tkF Z.hit (by decide) (fun W pn xe t p => dss_one (ds_if (dt_cmp (suits_eq hr.units) (de_var (i := 0)) de_int (nomark _)) (dss_one (ds_set (i := 3) sc__law_asked.nd (de_if (dt_tru (de_var (i := 2))) (de_callKX [0] (ok_is_plain Z) t hr kw_is_plain_net (dk_cons (de_ix hr.u1 (de_var (i := 1)) de_int) dk_nil) (len_cons len_nil)) (de_callX (ok_is_plain Z) t hr (da_cons (de_ix hr.u1 (de_var (i := 1)) de_int) da_nil))))) (dss_one (ds_if (dt_cmp (suits_eq hr.units) (de_var (i := 0)) de_int (nomark _)) (dss_one (ds_set (i := 3) sc__law_asked.nd (de_if (dt_tru (de_var (i := 2))) (de_callKX [0] (ok_top Z) t hr kw_top_net (dk_cons (de_ix hr.u1 (de_var (i := 1)) de_int) dk_nil) (len_cons len_nil)) (de_callX (ok_top Z) t hr (da_cons (de_ix hr.u1 (de_var (i := 1)) de_int) da_nil))))) (dss_one (ds_if (dt_cmp (suits_eq hr.units) (de_var (i := 0)) de_int (nomark _)) (dss_one (ds_set (i := 3) sc__law_asked.nd (de_if (dt_tru (de_var (i := 2))) (de_callKX [0] (ok_bottom Z) t hr kw_bottom_net (dk_cons (de_ix hr.u1 (de_var (i := 1)) de_int) dk_nil) (len_cons len_nil)) (de_callX (ok_bottom Z) t hr (da_cons (de_ix hr.u1 (de_var (i := 1)) de_int) da_nil))))) (dss_one (ds_if (dt_tru (de_var (i := 2))) (dss_one (ds_set (i := 3) sc__law_asked.nd (de_callKX [2, 1, 0] (ok_extreme Z) t hr kw_extreme_sign_words_net (dk_cons (de_ix hr.u1 (de_var (i := 1)) de_int) (dk_cons (de_ix hr.u1 (de_var (i := 1)) de_int) (dk_cons (de_ix hr.u1 (de_var (i := 1)) de_int) dk_nil))) (len_cons (len_cons (len_cons len_nil)))))) (dss_one (ds_set (i := 3) sc__law_asked.nd (de_callX (ok_extreme Z) t hr (da_cons (de_ix hr.u1 (de_var (i := 1)) de_int) (da_cons (de_ix hr.u1 (de_var (i := 1)) de_int) (da_cons (de_ix hr.u1 (de_var (i := 1)) de_int) da_nil)))))))))))))) (.as ⟨rfl, by decide, .inl Z.c_InvalidNet⟩ rfl rfl (fun a oe cls d pn k c fs ds hx hz hf => dss_one (ds_ret (de_lst (da_cons de_str (da_cons (de_xf (i := 4) (fun C _ e => e ▸ Z.xf hx) hz hf) da_nil))))) (.as ⟨rfl, by decide, .inl Z.c_InvalidWords⟩ rfl rfl (fun a oe cls d pn k c fs ds hx hz hf => dss_one (ds_ret (de_lst (da_cons de_str (da_cons (de_xf (i := 4) (fun C _ e => e ▸ Z.xf hx) hz hf) da_nil))))) (.as ⟨rfl, by decide, .inl Z.c_InvalidSign⟩ rfl rfl (fun a oe cls d pn k c fs ds hx hz hf => dss_one (ds_ret (de_lst (da_cons de_str (da_cons (de_xf (i := 4) (fun C _ e => e ▸ Z.xf hx) hz hf) da_nil))))) (.bare ⟨rfl, by decide, .inl Z.c_DarkError⟩ (fun a oe cls d pn k c fs ds hx hz hf => dss_one (ds_ret (de_lst (da_cons de_str (da_cons de_non da_nil))))) (.nil)))))) (dss_one (ds_ret (de_lst (da_cons de_str (da_cons (de_var (i := 3)) da_nil)))))
theorem sc__law_parts : FnScope ["told"] ["told"] (defScope s54) := ⟨rfl, rfl, rfl, by decide +kernel, rfl, by decide +kernel, by decide +kernel⟩
def b__law_parts : FS := fSeq (fIfS (tfNot (fTr (f1 (isiC CS "Net") (fVar 0)))) (fRet (fC .non)) fNext) (fRet (fLst (aCons (fFld CS FSN "ins" (fVar 0)) (aCons (fFld CS FSN "first" (fVar 0)) (aCons (fFld CS FSN "gates" (fVar 0)) (aCons (fFld CS FSN "nexts" (fVar 0)) (aCons (fFld CS FSN "outs" (fVar 0)) (aCons (fFld CS FSN "latches" (fVar 0)) (aCons (fFld CS FSN "wires" (fVar 0)) aNil)))))))))
def m__law_parts : Mean := fnM false 1 1 b__law_parts
theorem ok__law_parts (Z : Zf K mg) : DefOk P w K mg base (He.ga K) 1 "_law_parts" s54 ["told"] m__law_parts :=
  def_ok (k := 0) (fb := b__law_parts) false 1 1 rfl rfl Z.d_54 sc__law_parts fun f cdv A outer s H E hr =>
    dss_cons (ds_if (dt_not (dt_tru (de_isic Z.tab rfl Z.b_isinstance (de_var (i := 0)) rfl Z.c_Net))) (dss_one (ds_ret de_non)) dss_nil) (dss_one (ds_ret (de_lst (da_cons (de_fld Z.tab Z.na (de_var (i := 0))) (da_cons (de_fld Z.tab Z.na (de_var (i := 0))) (da_cons (de_fld Z.tab Z.na (de_var (i := 0))) (da_cons (de_fld Z.tab Z.na (de_var (i := 0))) (da_cons (de_fld Z.tab Z.na (de_var (i := 0))) (da_cons (de_fld Z.tab Z.na (de_var (i := 0))) (da_cons (de_fld Z.tab Z.na (de_var (i := 0))) da_nil))))))))))
theorem sc__law_ends_right : FnScope ["net", "made", "by_name", "size", "plain", "kind", "wires", "sign", "due", "told"] ["net", "made", "by_name"] (defScope s55) := ⟨rfl, rfl, rfl, by decide +kernel, rfl, by decide +kernel, by decide +kernel⟩
def b__law_ends_right : FS := fSeq (fPar 3 4 (fLst (aCons (fCall (op1 opLen) (aCons (fBin opIx (fVar 0) (fC (.int 1))) aNil)) (aCons (fBin opAdd (fBin opAdd (fBin opIx (fVar 0) (fC (.int 0))) (fCall (op1 opLen) (aCons (fBin opIx (fVar 0) (fC (.int 1))) aNil))) (fCall (op1 opLen) (aCons (fBin opIx (fVar 0) (fC (.int 2))) aNil))) aNil))) (fBin opEq (fLc (fItr (fBin opIx (fVar 0) (fC (.int 2)))) [5, 6] (tTupG 2 (tConsG (tName 5) (tConsG (tName 6) tNilG))) (fB (fBin opEq (fVar 5) (fC (.str "not")))) (fVar 5)) (fLst aNil))) (fSeq (fIfS (tfNot (fTr (fApp (m__law_same REC) (aCons (fApp m__law_asked (aCons (fC (.int 0)) (aCons (fLst (aCons (fVar 1) aNil)) (aCons (fVar 2) aNil)))) (aCons (fLst (aCons (fC (.str "told")) (aCons (fVar 4) aNil))) aNil))))) (fRet (fC (.bl false))) fNext) (fSeq (fFor (fRng1 (aCons (fC (.int 2)) aNil)) (tName 7) (fSeq (fSet 8 (fApp m__law_end (aCons (fVar 0) (aCons (fVar 7) aNil)))) (fSeq (fSet 9 (fApp m__law_asked (aCons (fBin opAdd (fC (.int 1)) (fVar 7)) (aCons (fLst (aCons (fVar 1) aNil)) (aCons (fBin opEq (fVar 2) (fBin opEq (fVar 7) (fC (.int 0)))) aNil))))) (fSeq (fIfS (tfOr (fB (fBin opNe (fBin opIx (fVar 9) (fC (.int 0))) (fC (.str "told")))) (tfOr (tfNot (fTr (fApp (m__law_same REC) (aCons (fApp m__law_parts (aCons (fBin opIx (fVar 9) (fC (.int 1))) aNil)) (aCons (fBin opAdd (fVar 8) (fVar 3)) aNil))))) (tfNot (fTr (fApp (m__law_same REC) (aCons (fApp m__law_parts (aCons (fVar 1) aNil)) (aCons (fBin opAdd (fVar 0) (fVar 3)) aNil))))))) (fRet (fC (.bl false))) fNext) (fSeq (fIfS (tfNot (fTr (fApp (m__law_same REC) (aCons (fLst (aCons (fBin (opOwn "Net" m_Net_eq) (fBin opIx (fVar 9) (fC (.int 1))) (fApp m__law_made (aCons (fVar 8) aNil))) (aCons (fBin (opOwn "Net" m_Net_eq) (fBin opIx (fVar 9) (fC (.int 1))) (fVar 1)) (aCons (fApp m_is_plain (aCons (fBin opIx (fVar 9) (fC (.int 1))) aNil)) aNil)))) (aCons (fLst (aCons (fC (.bl true)) (aCons (fVar 4) (aCons (fC (.bl true)) aNil)))) aNil))))) (fRet (fC (.bl false))) fNext) (fIfS (tfNot (fTr (fApp (m__law_same REC) (aCons (fApp m__law_parts (aCons (fApp m_top (aCons (fApp m_bottom (aCons (fBin opIx (fVar 9) (fC (.int 1))) aNil)) aNil)) aNil)) (aCons (fBin opAdd (fVar 8) (fVar 3)) aNil))))) (fRet (fC (.bl false))) fNext)))))) (fRet (fC (.bl true)))))
def m__law_ends_right : Mean := fnM false 3 10 b__law_ends_right
theorem ok__law_ends_right (Z : Zf K mg) : DefOk P w K mg base (He.ga K) 14 "_law_ends_right" s55 ["net", "made", "by_name"] m__law_ends_right :=
  def_ok (k := 13) (fb := b__law_ends_right) false 3 10 rfl rfl Z.d_55 sc__law_ends_right fun f cdv A outer s H E hr =>
    dss_cons (ds_par (i := 3) (j := 4) rfl sc__law_ends_right.nd (de_lst (da_cons (de_callB suits_len rfl Z.b_len boot_len (da_cons (de_ix hr.u1 (de_var (i := 0)) de_int) da_nil)) (da_cons (de_bin suits_add (de_bin suits_add (de_ix hr.u1 (de_var (i := 0)) de_int) (de_callB suits_len rfl Z.b_len boot_len (da_cons (de_ix hr.u1 (de_var (i := 0)) de_int) da_nil))) (de_callB suits_len rfl Z.b_len boot_len (da_cons (de_ix hr.u1 (de_var (i := 0)) de_int) da_nil))) da_nil))) (de_cmp (suits_eq hr.units) (de_lc [("kind", 5), ("wires", 6)] rfl sc__law_ends_right.nd (di_seq (de_ix hr.u1 (de_var (i := 0)) de_int)) (blkOk_by (by kernel_rfl)) (fun s H C cl fp => dg_tup rfl (dgs_cons (dg_name (i := 5) sc__law_ends_right.nd) (dgs_cons (dg_name (i := 6) sc__law_ends_right.nd) dgs_nil))) (fun s H C cl fp => dts_one (dt_cmp (suits_eq hr.units) (de_var (i := 5)) de_str (nomark _))) (fun s H C cl fp => de_var (i := 5))) (de_lst da_nil) (nomark _))) (dss_cons (ds_if (dt_not (dt_tru (de_callX (ok__law_same Z REC) tkF hr (da_cons (de_callX (ok__law_asked Z) tkF hr (da_cons de_int (da_cons (de_lst (da_cons (de_var (i := 1)) da_nil)) (da_cons (de_var (i := 2)) da_nil)))) (da_cons (de_lst (da_cons de_str (da_cons (de_var (i := 4)) da_nil))) da_nil)) (by decide) (ar__law_same REC)))) (dss_one (ds_ret de_bl)) dss_nil) (dss_cons (ds_for ppF rfl (di_rng1 rfl Z.b_range (da_cons de_int da_nil)) (dg_name (i := 7) sc__law_ends_right.nd) (dss_cons (ds_set (i := 8) sc__law_ends_right.nd (de_callX (ok__law_end Z) tkF hr (da_cons (de_var (i := 0)) (da_cons (de_var (i := 7)) da_nil)))) (dss_cons (ds_set (i := 9) sc__law_ends_right.nd (de_callX (ok__law_asked Z) tkF hr (da_cons (de_bin suits_add de_int (de_var (i := 7))) (da_cons (de_lst (da_cons (de_var (i := 1)) da_nil)) (da_cons (de_cmp (suits_eq hr.units) (de_var (i := 2)) (de_cmp (suits_eq hr.units) (de_var (i := 7)) de_int (nomark _)) (nomark _)) da_nil))))) (dss_cons (ds_if (dt_w (dw_or (dt_cmp (suits_ne hr.units) (de_ix hr.u1 (de_var (i := 9)) de_int) de_str (nomark _)) (dw_or (dt_not (dt_tru (de_callX (ok__law_same Z REC) tkF hr (da_cons (de_callX (ok__law_parts Z) tkF hr (da_cons (de_ix hr.u1 (de_var (i := 9)) de_int) da_nil)) (da_cons (de_bin suits_add (de_var (i := 8)) (de_var (i := 3))) da_nil)) (by decide) (ar__law_same REC)))) (dw_or1 (dt_not (dt_tru (de_callX (ok__law_same Z REC) tkF hr (da_cons (de_callX (ok__law_parts Z) tkF hr (da_cons (de_var (i := 1)) da_nil)) (da_cons (de_bin suits_add (de_var (i := 0)) (de_var (i := 3))) da_nil)) (by decide) (ar__law_same REC)))))))) (dss_one (ds_ret de_bl)) dss_nil) (dss_cons (ds_if (dt_not (dt_tru (de_callX (ok__law_same Z REC) tkF hr (da_cons (de_lst (da_cons (de_cmp (eqX (eq_Net_eq Z) hr) (de_ix hr.u1 (de_var (i := 9)) de_int) (de_callX (ok__law_made Z) tkF hr (da_cons (de_var (i := 8)) da_nil)) (nomark _)) (da_cons (de_cmp (eqX (eq_Net_eq Z) hr) (de_ix hr.u1 (de_var (i := 9)) de_int) (de_var (i := 1)) (nomark _)) (da_cons (de_callX (ok_is_plain Z) tkF hr (da_cons (de_ix hr.u1 (de_var (i := 9)) de_int) da_nil)) da_nil)))) (da_cons (de_lst (da_cons de_bl (da_cons (de_var (i := 4)) (da_cons de_bl da_nil)))) da_nil)) (by decide) (ar__law_same REC)))) (dss_one (ds_ret de_bl)) dss_nil) (dss_one (ds_if (dt_not (dt_tru (de_callX (ok__law_same Z REC) tkF hr (da_cons (de_callX (ok__law_parts Z) tkF hr (da_cons (de_callX (ok_top Z) tkF hr (da_cons (de_callX (ok_bottom Z) tkF hr (da_cons (de_ix hr.u1 (de_var (i := 9)) de_int) da_nil)) da_nil)) da_nil)) (da_cons (de_bin suits_add (de_var (i := 8)) (de_var (i := 3))) da_nil)) (by decide) (ar__law_same REC)))) (dss_one (ds_ret de_bl)) dss_nil))))))) (dss_one (ds_ret de_bl))))
theorem sc__law_extremes_right : FnScope ["box", "net", "made", "by_name", "turn", "words", "sign", "k", "own", "handed", "told"] ["box", "net", "made", "by_name"] (defScope s56) := ⟨rfl, rfl, rfl, by decide +kernel, rfl, by decide +kernel, by decide +kernel⟩
def b__law_extremes_right : FS := fSeq (fFor (fRng1 (aCons (fC (.int 4)) aNil)) (tName 4) (fSeq (fPar 5 6 (fLc (fRng1 (aCons (fBin opAdd (fC (.int 1)) (fApp m__law_take (aCons (fVar 0) (aCons (fC (.int 5)) aNil)))) aNil)) [7] (tName 7) fYes (fApp m__law_word (aCons (fVar 0) (aCons (fBin opIx (fVar 1) (fC (.int 0))) aNil)))) (fBin opMod (fCall (op1 opInt) (aCons (fVar 4) aNil)) (fC (.int 2)))) (fSeq (fSet 8 (fApp m__law_run (aCons (fApp m__law_end (aCons (fVar 1) (aCons (fVar 6) aNil))) (aCons (fVar 5) (aCons (fBin opMul (fLst (aCons (fLst aNil) aNil)) (fCall (op1 opLen) (aCons (fVar 5) aNil))) aNil))))) (fSeq (fSet 9 (fIf (fB (fBin opLt (fVar 4) (fC (.int 2)))) (fCall (op1 opList) (aCons (fVar 5) aNil)) (fCall (op1 opTuple) (aCons (fVar 5) aNil)))) (fSeq (fSet 10 (fLst (aCons (fApp m__law_asked (aCons (fC (.int 3)) (aCons (fLst (aCons (fVar 2) (aCons (fVar 9) (aCons (fVar 6) aNil)))) (aCons (fVar 3) aNil)))) (aCons (fApp m__law_asked (aCons (fC (.int 3)) (aCons (fLst (aCons (fVar 2) (aCons (fVar 9) (aCons (fVar 6) aNil)))) (aCons (fNotT (fTr (fVar 3))) aNil)))) aNil)))) (fIfS (tfOr (tfNot (fTr (fApp (m__law_same REC) (aCons (fVar 10) (aCons (fBin opMul (fLst (aCons (fLst (aCons (fC (.str "told")) (aCons (fTup (aCons (fBin opIx (fVar 8) (fC (.int 1))) (aCons (fBin opIx (fBin opIx (fVar 8) (fC (.int 0))) (fNeg (fC (.int 1)))) aNil))) aNil))) aNil)) (fC (.int 2))) aNil))))) (tfNot (fTr (fApp (m__law_same REC) (aCons (fCall (op1 opList) (aCons (fVar 9) aNil)) (aCons (fVar 5) aNil)))))) (fRet (fC (.bl false))) fNext)))))) (fRet (fC (.bl true)))
def m__law_extremes_right : Mean := fnM false 4 11 b__law_extremes_right
theorem ok__law_extremes_right (Z : Zf K mg) : DefOk P w K mg base (He.ga K) 14 "_law_extremes_right" s56 ["box", "net", "made", "by_name"] m__law_extremes_right :=
  def_ok (k := 13) (fb := b__law_extremes_right) false 4 11 rfl rfl Z.d_56 sc__law_extremes_right fun f cdv A outer s H E hr =>
    dss_cons (ds_for ppF rfl (di_rng1 rfl Z.b_range (da_cons de_int da_nil)) (dg_name (i := 4) sc__law_extremes_right.nd) (dss_cons (ds_par (i := 5) (j := 6) rfl sc__law_extremes_right.nd (de_lc [("k", 7)] rfl sc__law_extremes_right.nd (di_rng1 rfl Z.b_range (da_cons (de_bin suits_add de_int (de_callX (ok__law_take Z) tkF hr (da_cons (de_var (i := 0)) (da_cons de_int da_nil)))) da_nil)) (blkOk_by (by kernel_rfl)) (fun s H C cl fp => dg_name (i := 7) sc__law_extremes_right.nd) (fun s H C cl fp => dts_nil) (fun s H C cl fp => de_callX (ok__law_word Z) takes0 hr (da_cons (de_var (i := 0)) (da_cons (de_ix hr.u1 (de_var (i := 1)) de_int) da_nil)))) (de_bin suits_mod (de_callTy suits_int_ rfl Z.b_int boot_int (da_cons (de_var (i := 4)) da_nil)) de_int)) (dss_cons (ds_set (i := 8) sc__law_extremes_right.nd (de_callX (ok__law_run Z) tkF hr (da_cons (de_callX (ok__law_end Z) tkF hr (da_cons (de_var (i := 1)) (da_cons (de_var (i := 6)) da_nil))) (da_cons (de_var (i := 5)) (da_cons (de_bin suits_mul (de_lst (da_cons (de_lst da_nil) da_nil)) (de_callB suits_len rfl Z.b_len boot_len (da_cons (de_var (i := 5)) da_nil))) da_nil))))) (dss_cons (ds_set (i := 9) sc__law_extremes_right.nd (de_if (dt_cmp suits_lt (de_var (i := 4)) de_int (by rfl)) (de_callTy suits_list rfl Z.b_list boot_list (da_cons (de_var (i := 5)) da_nil)) (de_callTy suits_tuple rfl Z.b_tuple boot_tuple (da_cons (de_var (i := 5)) da_nil)))) (dss_cons (ds_set (i := 10) sc__law_extremes_right.nd (de_lst (da_cons (de_callX (ok__law_asked Z) tkF hr (da_cons de_int (da_cons (de_lst (da_cons (de_var (i := 2)) (da_cons (de_var (i := 9)) (da_cons (de_var (i := 6)) da_nil)))) (da_cons (de_var (i := 3)) da_nil)))) (da_cons (de_callX (ok__law_asked Z) tkF hr (da_cons de_int (da_cons (de_lst (da_cons (de_var (i := 2)) (da_cons (de_var (i := 9)) (da_cons (de_var (i := 6)) da_nil)))) (da_cons (de_notT (de_var (i := 3))) da_nil)))) da_nil)))) (dss_one (ds_if (dt_w (dw_or (dt_not (dt_tru (de_callX (ok__law_same Z REC) tkF hr (da_cons (de_var (i := 10)) (da_cons (de_bin suits_mul (de_lst (da_cons (de_lst (da_cons de_str (da_cons (de_tup (da_cons (de_ix hr.u1 (de_var (i := 8)) de_int) (da_cons (de_ix hr.u1 (de_ix hr.u1 (de_var (i := 8)) de_int) (de_neg de_int)) da_nil))) da_nil))) da_nil)) de_int) da_nil)) (by decide) (ar__law_same REC)))) (dw_or1 (dt_not (dt_tru (de_callX (ok__law_same Z REC) tkF hr (da_cons (de_callTy suits_list rfl Z.b_list boot_list (da_cons (de_var (i := 9)) da_nil)) (da_cons (de_var (i := 5)) da_nil)) (by decide) (ar__law_same REC))))))) (dss_one (ds_ret de_bl)) dss_nil))))))) (dss_one (ds_ret de_bl))
theorem sc__law_hurt_right : FnScope ["box", "net", "made", "sign", "words", "places", "k", "hurts", "word", "place", "end", "ways", "less", "more"] ["box", "net", "made"] (defScope s57) := ⟨rfl, rfl, rfl, by decide +kernel, rfl, by decide +kernel, by decide +kernel⟩
def b__law_hurt_right : FS := fSeq (fFor (fRng1 (aCons (fC (.int 2)) aNil)) (tName 3) (fSeq (fAsg (fTup (aCons (fLc (fRng1 (aCons (fBin opAdd (fC (.int 1)) (fApp m__law_take (aCons (fVar 0) (aCons (fC (.int 4)) aNil)))) aNil)) [6] (tName 6) fYes (fApp m__law_word (aCons (fVar 0) (aCons (fBin opIx (fVar 1) (fC (.int 0))) aNil)))) (aCons (fApp m__law_places (aCons (fVar 1) aNil)) aNil))) (tTupG 2 (tConsG (tName 4) (tConsG (tName 5) tNilG)))) (fSeq (fSet 7 (fLc (fItr (fVar 4)) [8] (tName 8) fYes (fLc (fItr (fSl (fApp m__law_mixed (aCons (fVar 0) (aCons (fVar 5) aNil))) oNone (oSome (fApp m__law_take (aCons (fVar 0) (aCons (fC (.int 5)) aNil)))))) [9] (tName 9) fYes (fTup (aCons (fVar 9) (aCons (fVar 3) aNil)))))) (fSeq (fSet 10 (fIf (fB (fBin opEq (fVar 3) (fC (.int 0)))) (fApp m_top (aCons (fVar 2) aNil)) (fApp m_bottom (aCons (fVar 2) aNil)))) (fSeq (fSet 11 (fLst (aCons (fBin opAdd (fApp m_run (aCons (fVar 2) (aCons (fVar 4) (aCons (fVar 7) aNil)))) (fLst (aCons (fApp m_latch_behind (aCons (fVar 2) (aCons (fVar 4) (aCons (fVar 7) aNil)))) aNil))) (aCons (fBin opAdd (fApp m_run (aCons (fVar 10) (aCons (fVar 4) (aCons (fLc (fItr (fVar 4)) [8] (tName 8) fYes (fLst aNil)) aNil)))) (fLst (aCons (fApp m_latch_behind (aCons (fVar 10) (aCons (fVar 4) (aCons (fLc (fItr (fVar 4)) [8] (tName 8) fYes (fLst aNil)) aNil)))) aNil))) aNil)))) (fSeq (fAsg (fIf (fB (fBin opEq (fVar 3) (fC (.int 0)))) (fTup (aCons (fBin opIx (fVar 11) (fC (.int 0))) (aCons (fBin opIx (fVar 11) (fC (.int 1))) aNil))) (fTup (aCons (fBin opIx (fVar 11) (fC (.int 1))) (aCons (fBin opIx (fVar 11) (fC (.int 0))) aNil)))) (tTupG 2 (tConsG (tName 12) (tConsG (tName 13) tNilG)))) (fIfS (tfOr (fB (fBin opNe (fCall (op1 opLen) (aCons (fVar 12) aNil)) (fBin opAdd (fCall (op1 opLen) (aCons (fVar 4) aNil)) (fC (.int 1))))) (fB (fBin opNe (fLc (fRng1 (aCons (fCall (op1 opLen) (aCons (fVar 12) aNil)) aNil)) [6] (tName 6) (tfNot (fTr (fApp m__law_in (aCons (fBin opIx (fVar 12) (fVar 6)) (aCons (fBin opIx (fVar 13) (fVar 6)) aNil))))) (fVar 6)) (fLst aNil)))) (fRet (fC (.bl false))) fNext))))))) (fRet (fC (.bl true)))
def m__law_hurt_right : Mean := fnM false 3 14 b__law_hurt_right
theorem ok__law_hurt_right (Z : Zf K mg) : DefOk P w K mg base (He.ga K) 11 "_law_hurt_right" s57 ["box", "net", "made"] m__law_hurt_right :=
  def_ok (k := 10) (fb := b__law_hurt_right) false 3 14 rfl rfl Z.d_57 sc__law_hurt_right fun f cdv A outer s H E hr =>
    dss_cons (ds_for ppF rfl (di_rng1 rfl Z.b_range (da_cons de_int da_nil)) (dg_name (i := 3) sc__law_hurt_right.nd) (dss_cons (ds_asg (de_tup (da_cons (de_lc [("k", 6)] rfl sc__law_hurt_right.nd (di_rng1 rfl Z.b_range (da_cons (de_bin suits_add de_int (de_callX (ok__law_take Z) tkF hr (da_cons (de_var (i := 0)) (da_cons de_int da_nil)))) da_nil)) (blkOk_by (by kernel_rfl)) (fun s H C cl fp => dg_name (i := 6) sc__law_hurt_right.nd) (fun s H C cl fp => dts_nil) (fun s H C cl fp => de_callX (ok__law_word Z) takes0 hr (da_cons (de_var (i := 0)) (da_cons (de_ix hr.u1 (de_var (i := 1)) de_int) da_nil)))) (da_cons (de_callX (ok__law_places Z) tkF hr (da_cons (de_var (i := 1)) da_nil)) da_nil))) (dg_tup rfl (dgs_cons (dg_name (i := 4) sc__law_hurt_right.nd) (dgs_cons (dg_name (i := 5) sc__law_hurt_right.nd) dgs_nil)))) (dss_cons (set_lcT [("word", 8)] rfl sc__law_hurt_right.nd (di_seq (de_var (i := 4))) (blkOk_by (by kernel_rfl)) (fun s H C cl fp => dg_name (i := 8) sc__law_hurt_right.nd) (fun s H C cl fp => dts_nil) (fun s H C cl fp => de_lc [("place", 9)] rfl sc__law_hurt_right.nd (di_seq (de_sl (de_callX (ok__law_mixed Z) takes0 hr (da_cons (de_var (i := 0)) (da_cons (de_var (i := 5)) da_nil))) do_none (do_some (de_callX (ok__law_take Z) takes0 hr (da_cons (de_var (i := 0)) (da_cons de_int da_nil)))))) (blkOk_by (by kernel_rfl)) (fun s H C cl fp => dg_name (i := 9) sc__law_hurt_right.nd) (fun s H C cl fp => dts_nil) (fun s H C cl fp => de_tup (da_cons (de_var (i := 9)) (da_cons (de_var (i := 3)) da_nil))))) (dss_cons (ds_set (i := 10) sc__law_hurt_right.nd (de_if (dt_cmp (suits_eq hr.units) (de_var (i := 3)) de_int (nomark _)) (de_callX (ok_top Z) tkF hr (da_cons (de_var (i := 2)) da_nil)) (de_callX (ok_bottom Z) tkF hr (da_cons (de_var (i := 2)) da_nil)))) (dss_cons (ds_set (i := 11) sc__law_hurt_right.nd (de_lst (da_cons (de_bin suits_add (de_callX (ok_run Z) tkF hr (da_cons (de_var (i := 2)) (da_cons (de_var (i := 4)) (da_cons (de_var (i := 7)) da_nil)))) (de_lst (da_cons (de_callX (ok_latch_behind Z) tkF hr (da_cons (de_var (i := 2)) (da_cons (de_var (i := 4)) (da_cons (de_var (i := 7)) da_nil)))) da_nil))) (da_cons (de_bin suits_add (de_callX (ok_run Z) tkF hr (da_cons (de_var (i := 10)) (da_cons (de_var (i := 4)) (da_cons (de_lc [("word", 8)] rfl sc__law_hurt_right.nd (di_seq (de_var (i := 4))) (blkOk_by (by kernel_rfl)) (fun s H C cl fp => dg_name (i := 8) sc__law_hurt_right.nd) (fun s H C cl fp => dts_nil) (fun s H C cl fp => de_lst da_nil)) da_nil)))) (de_lst (da_cons (de_callX (ok_latch_behind Z) tkF hr (da_cons (de_var (i := 10)) (da_cons (de_var (i := 4)) (da_cons (de_lc [("word", 8)] rfl sc__law_hurt_right.nd (di_seq (de_var (i := 4))) (blkOk_by (by kernel_rfl)) (fun s H C cl fp => dg_name (i := 8) sc__law_hurt_right.nd) (fun s H C cl fp => dts_nil) (fun s H C cl fp => de_lst da_nil)) da_nil)))) da_nil))) da_nil)))) (dss_cons (ds_asg (de_if (dt_cmp (suits_eq hr.units) (de_var (i := 3)) de_int (nomark _)) (de_tup (da_cons (de_ix hr.u1 (de_var (i := 11)) de_int) (da_cons (de_ix hr.u1 (de_var (i := 11)) de_int) da_nil))) (de_tup (da_cons (de_ix hr.u1 (de_var (i := 11)) de_int) (da_cons (de_ix hr.u1 (de_var (i := 11)) de_int) da_nil)))) (dg_tup rfl (dgs_cons (dg_name (i := 12) sc__law_hurt_right.nd) (dgs_cons (dg_name (i := 13) sc__law_hurt_right.nd) dgs_nil)))) (dss_one (ds_if (dt_w (dw_or (dt_cmp (suits_ne hr.units) (de_callB suits_len rfl Z.b_len boot_len (da_cons (de_var (i := 12)) da_nil)) (de_bin suits_add (de_callB suits_len rfl Z.b_len boot_len (da_cons (de_var (i := 4)) da_nil)) de_int) (nomark _)) (dw_or1 (dt_cmp (suits_ne hr.units) (de_lc [("k", 6)] rfl sc__law_hurt_right.nd (di_rng1 rfl Z.b_range (da_cons (de_callB suits_len rfl Z.b_len boot_len (da_cons (de_var (i := 12)) da_nil)) da_nil)) (blkOk_by (by kernel_rfl)) (fun s H C cl fp => dg_name (i := 6) sc__law_hurt_right.nd) (fun s H C cl fp => dts_one (dt_not (dt_tru (de_callX (ok__law_in Z) takes0 hr (da_cons (de_ix hr.u1 (de_var (i := 12)) (de_var (i := 6))) (da_cons (de_ix hr.u1 (de_var (i := 13)) (de_var (i := 6))) da_nil)))))) (fun s H C cl fp => de_var (i := 6))) (de_lst da_nil) (nomark _))))) (dss_one (ds_ret de_bl)) dss_nil)))))))) (dss_one (ds_ret de_bl))
theorem sc__law_refused : FnScope ["value", "which", "args", "due", "by_name", "told"] ["value", "which", "args", "due", "by_name"] (defScope s58) := ⟨rfl, rfl, rfl, by decide +kernel, rfl, by decide +kernel, by decide +kernel⟩
def b__law_refused : FS := fSeq (fSet 5 (fApp m__law_asked (aCons (fVar 1) (aCons (fVar 2) (aCons (fVar 4) aNil))))) (fSeq (fIfS (fTr (f1 (isiD CS ["list"]) (fVar 0))) (fExpr (fML opAppend (fVar 0) (aCons (fC (.int 0)) aNil))) fNext) (fSeq (fIfS (fTr (f1 (isiD CS ["dict"]) (fVar 0))) (fRet (fAnd (fBin opEq (fBin opIx (fVar 5) (fC (.int 0))) (fVar 3)) (fAnd (f1 (isiD CS ["dict"]) (fBin opIx (fVar 5) (fC (.int 1)))) (fBin opEq (fCall (op1 opLen) (aCons (fBin opIx (fVar 5) (fC (.int 1))) aNil)) (fCall (op1 opLen) (aCons (fVar 0) aNil)))))) fNext) (fRet (fAnd (fBin opEq (fBin opIx (fVar 5) (fC (.int 0))) (fVar 3)) (fApp (m__law_same REC) (aCons (fBin opIx (fVar 5) (fC (.int 1))) (aCons (fVar 0) aNil)))))))
def m__law_refused : Mean := fnM false 5 6 b__law_refused
theorem ok__law_refused (Z : Zf K mg) : DefOk P w K mg base (He.ga K) 14 "_law_refused" s58 ["value", "which", "args", "due", "by_name"] m__law_refused :=
  def_ok (k := 13) (fb := b__law_refused) false 5 6 rfl rfl Z.d_58 sc__law_refused fun f cdv A outer s H E hr =>
    dss_cons (ds_set (i := 5) sc__law_refused.nd (de_callX (ok__law_asked Z) tkF hr (da_cons (de_var (i := 1)) (da_cons (de_var (i := 2)) (da_cons (de_var (i := 4)) da_nil))))) (dss_cons (ds_if (dt_tru (de_isi Z.tab (T := "list") (by decide) rfl Z.b_isinstance (de_var (i := 0)) rfl Z.b_list boot_list)) (dss_one (ds_expr (de_append (de_var (i := 0)) (da_cons de_int da_nil)))) dss_nil) (dss_cons (ds_if (dt_tru (de_isi Z.tab (T := "dict") (by decide) rfl Z.b_isinstance (de_var (i := 0)) rfl Z.b_dict boot_dict)) (dss_one (ds_ret (de_and (de_cmp (suits_eq hr.units) (de_ix hr.u1 (de_var (i := 5)) de_int) (de_var (i := 3)) (nomark _)) (de_and (de_isi Z.tab (T := "dict") (by decide) rfl Z.b_isinstance (de_ix hr.u1 (de_var (i := 5)) de_int) rfl Z.b_dict boot_dict) (de_one (de_cmp (suits_eq hr.units) (de_callB suits_len rfl Z.b_len boot_len (da_cons (de_ix hr.u1 (de_var (i := 5)) de_int) da_nil)) (de_callB suits_len rfl Z.b_len boot_len (da_cons (de_var (i := 0)) da_nil)) (nomark _))))))) dss_nil) (dss_one (ds_ret (de_and (de_cmp (suits_eq hr.units) (de_ix hr.u1 (de_var (i := 5)) de_int) (de_var (i := 3)) (nomark _)) (de_one (de_callX (ok__law_same Z REC) tkF hr (da_cons (de_ix hr.u1 (de_var (i := 5)) de_int) (da_cons (de_var (i := 0)) da_nil)) (by decide) (ar__law_same REC))))))))
theorem sc__law_refused_right : FnScope ["box", "net", "made", "by_name", "word", "which", "k", "value", "own"] ["box", "net", "made", "by_name"] (defScope s59) := ⟨rfl, rfl, rfl, by decide +kernel, rfl, by decide +kernel, by decide +kernel⟩
def b__law_refused_right : FS := fSeq (fSet 4 (fApp m__law_word (aCons (fVar 0) (aCons (fBin opIx (fVar 1) (fC (.int 0))) aNil)))) (fSeq (fFor (fRng1 (aCons (fC (.int 4)) aNil)) (tName 5) (fFor (fRng1 (aCons (fC (.int 6)) aNil)) (tName 6) (fSeq (fSet 7 (fBin opIx (fLst (aCons (fC .non) (aCons (fC (.int 5)) (aCons (fC (.str "net")) (aCons (fLstC (aCons (fC (.int 1)) aNil)) (aCons (fTup (aCons (fC (.int 0)) (aCons (fC (.str "1")) aNil))) (aCons (fC (.bl true)) aNil))))))) (fVar 6))) (fIfS (tfNot (fTr (fApp m__law_refused (aCons (fVar 7) (aCons (fVar 5) (aCons (fLst (aCons (fVar 7) (aCons (fBin opIx (fLst (aCons (fLst (aCons (fC .non) aNil)) (aCons (fC .non) aNil))) (fBin opMod (fCall (op1 opInt) (aCons (fVar 6) aNil)) (fC (.int 2)))) (aCons (fC (.int 7)) aNil)))) (aCons (fC (.str "net")) (aCons (fBin opEq (fVar 3) (fBin opEq (fBin opMod (fCall (op1 opInt) (aCons (fVar 6) aNil)) (fC (.int 2))) (fC (.int 0)))) aNil)))))))) (fRet (fC (.bl false))) fNext)))) (fSeq (fFor (fRng1 (aCons (fC (.int 10)) aNil)) (tName 6) (fSeq (fSet 7 (fBin opIx (fLst (aCons (fC .non) (aCons (fLstC aNil) (aCons (fC (.str "")) (aCons (fLstC (aCons (fBin opAdd (fVar 4) (fC (.str "0"))) aNil)) (aCons (fLstC (aCons (fVar 4) (aCons (fC .non) aNil))) (aCons (fTup (aCons (fVar 4) (aCons (fC (.int 5)) aNil))) (aCons (fDisp ((fC (.str "a"), fC (.int 1)) :: [])) (aCons (fLstC (aCons (fLst (aCons (fVar 4) aNil)) aNil)) (aCons (fBin opMulC (fLst (aCons (fVar 4) aNil)) (fC (.int 201))) (aCons (fLstC (aCons (fBin opAdd (fVar 4) (fC (.str "2"))) aNil)) aNil))))))))))) (fVar 6))) (fIfS (tfNot (fTr (fApp m__law_refused (aCons (fVar 7) (aCons (fC (.int 3)) (aCons (fLst (aCons (fVar 2) (aCons (fVar 7) (aCons (fBin opIx (fLst (aCons (fC (.bl true)) (aCons (fC (.int 0)) aNil))) (fBin opMod (fCall (op1 opInt) (aCons (fVar 6) aNil)) (fC (.int 2)))) aNil)))) (aCons (fC (.str "words")) (aCons (fBin opEq (fVar 3) (fBin opEq (fBin opMod (fCall (op1 opInt) (aCons (fVar 6) aNil)) (fC (.int 2))) (fC (.int 0)))) aNil)))))))) (fRet (fC (.bl false))) fNext))) (fSeq (fFor (fRng1 (aCons (fC (.int 7)) aNil)) (tName 6) (fSeq (fSet 7 (fBin opIx (fLst (aCons (fC (.bl true)) (aCons (fC (.bl false)) (aCons (fC (.int 2)) (aCons (fNeg (fC (.int 1))) (aCons (fC .non) (aCons (fC (.str "0")) (aCons (fLstC (aCons (fC (.int 0)) aNil)) aNil)))))))) (fVar 6))) (fIfS (tfNot (fTr (fApp m__law_refused (aCons (fVar 7) (aCons (fC (.int 3)) (aCons (fLst (aCons (fVar 2) (aCons (fLst (aCons (fVar 4) aNil)) (aCons (fVar 7) aNil)))) (aCons (fC (.str "sign")) (aCons (fBin opEq (fVar 3) (fBin opEq (fBin opMod (fCall (op1 opInt) (aCons (fVar 6) aNil)) (fC (.int 2))) (fC (.int 0)))) aNil)))))))) (fRet (fC (.bl false))) fNext))) (fSeq (fSet 8 (fApp m__law_run (aCons (fApp m__law_end (aCons (fVar 1) (aCons (fC (.int 0)) aNil))) (aCons (fBin opMul (fLst (aCons (fVar 4) aNil)) (fC (.int 200))) (aCons (fBin opMul (fLst (aCons (fLst aNil) aNil)) (fC (.int 200))) aNil))))) (fRet (fApp (m__law_same REC) (aCons (fApp m__law_asked (aCons (fC (.int 3)) (aCons (fLst (aCons (fVar 2) (aCons (fBin opMul (fLst (aCons (fVar 4) aNil)) (fC (.int 200))) (aCons (fC (.int 0)) aNil)))) (aCons (fVar 3) aNil)))) (aCons (fLst (aCons (fC (.str "told")) (aCons (fTup (aCons (fBin opIx (fVar 8) (fC (.int 1))) (aCons (fBin opIx (fBin opIx (fVar 8) (fC (.int 0))) (fNeg (fC (.int 1)))) aNil))) aNil))) aNil))))))))
def m__law_refused_right : Mean := fnM false 4 9 b__law_refused_right
theorem ok__law_refused_right (Z : Zf K mg) : DefOk P w K mg base (He.ga K) 15 "_law_refused_right" s59 ["box", "net", "made", "by_name"] m__law_refused_right :=
  def_ok (k := 14) (fb := b__law_refused_right) false 4 9 rfl rfl Z.d_59 sc__law_refused_right fun f cdv A outer s H E hr =>
    dss_cons (ds_set (i := 4) sc__law_refused_right.nd (de_callX (ok__law_word Z) tkF hr (da_cons (de_var (i := 0)) (da_cons (de_ix hr.u1 (de_var (i := 1)) de_int) da_nil)))) (dss_cons (ds_for ppF rfl (di_rng1 rfl Z.b_range (da_cons de_int da_nil)) (dg_name (i := 5) sc__law_refused_right.nd) (dss_one (ds_for ppF rfl (di_rng1 rfl Z.b_range (da_cons de_int da_nil)) (dg_name (i := 6) sc__law_refused_right.nd) (dss_cons (ds_set (i := 7) sc__law_refused_right.nd (de_ix hr.u1 (de_lst (da_cons de_non (da_cons de_int (da_cons de_str (da_cons (de_lstC (da_cons de_int da_nil)) (da_cons (de_tup (da_cons de_int (da_cons de_str da_nil))) (da_cons de_bl da_nil))))))) (de_var (i := 6)))) (dss_one (ds_if (dt_not (dt_tru (de_callX (ok__law_refused Z) tkF hr (da_cons (de_var (i := 7)) (da_cons (de_var (i := 5)) (da_cons (de_lst (da_cons (de_var (i := 7)) (da_cons (de_ix hr.u1 (de_lst (da_cons (de_lst (da_cons de_non da_nil)) (da_cons de_non da_nil))) (de_bin suits_mod (de_callTy suits_int_ rfl Z.b_int boot_int (da_cons (de_var (i := 6)) da_nil)) de_int)) (da_cons de_int da_nil)))) (da_cons de_str (da_cons (de_cmp (suits_eq hr.units) (de_var (i := 3)) (de_cmp (suits_eq hr.units) (de_bin suits_mod (de_callTy suits_int_ rfl Z.b_int boot_int (da_cons (de_var (i := 6)) da_nil)) de_int) de_int (nomark _)) (nomark _)) da_nil)))))))) (dss_one (ds_ret de_bl)) dss_nil)))))) (dss_cons (ds_for ppF rfl (di_rng1 rfl Z.b_range (da_cons de_int da_nil)) (dg_name (i := 6) sc__law_refused_right.nd) (dss_cons (ds_set (i := 7) sc__law_refused_right.nd (de_ix hr.u1 (de_lst (da_cons de_non (da_cons (de_lstC da_nil) (da_cons de_str (da_cons (de_lstC (da_cons (de_bin suits_add (de_var (i := 4)) de_str) da_nil)) (da_cons (de_lstC (da_cons (de_var (i := 4)) (da_cons de_non da_nil))) (da_cons (de_tup (da_cons (de_var (i := 4)) (da_cons de_int da_nil))) (da_cons (de_disp (dps_cons de_str de_int dps_nil)) (da_cons (de_lstC (da_cons (de_lst (da_cons (de_var (i := 4)) da_nil)) da_nil)) (da_cons (de_bin suits_mulC (de_lst (da_cons (de_var (i := 4)) da_nil)) de_int) (da_cons (de_lstC (da_cons (de_bin suits_add (de_var (i := 4)) de_str) da_nil)) da_nil))))))))))) (de_var (i := 6)))) (dss_one (ds_if (dt_not (dt_tru (de_callX (ok__law_refused Z) tkF hr (da_cons (de_var (i := 7)) (da_cons de_int (da_cons (de_lst (da_cons (de_var (i := 2)) (da_cons (de_var (i := 7)) (da_cons (de_ix hr.u1 (de_lst (da_cons de_bl (da_cons de_int da_nil))) (de_bin suits_mod (de_callTy suits_int_ rfl Z.b_int boot_int (da_cons (de_var (i := 6)) da_nil)) de_int)) da_nil)))) (da_cons de_str (da_cons (de_cmp (suits_eq hr.units) (de_var (i := 3)) (de_cmp (suits_eq hr.units) (de_bin suits_mod (de_callTy suits_int_ rfl Z.b_int boot_int (da_cons (de_var (i := 6)) da_nil)) de_int) de_int (nomark _)) (nomark _)) da_nil)))))))) (dss_one (ds_ret de_bl)) dss_nil)))) (dss_cons (ds_for ppF rfl (di_rng1 rfl Z.b_range (da_cons de_int da_nil)) (dg_name (i := 6) sc__law_refused_right.nd) (dss_cons (ds_set (i := 7) sc__law_refused_right.nd (de_ix hr.u1 (de_lst (da_cons de_bl (da_cons de_bl (da_cons de_int (da_cons (de_neg de_int) (da_cons de_non (da_cons de_str (da_cons (de_lstC (da_cons de_int da_nil)) da_nil)))))))) (de_var (i := 6)))) (dss_one (ds_if (dt_not (dt_tru (de_callX (ok__law_refused Z) tkF hr (da_cons (de_var (i := 7)) (da_cons de_int (da_cons (de_lst (da_cons (de_var (i := 2)) (da_cons (de_lst (da_cons (de_var (i := 4)) da_nil)) (da_cons (de_var (i := 7)) da_nil)))) (da_cons de_str (da_cons (de_cmp (suits_eq hr.units) (de_var (i := 3)) (de_cmp (suits_eq hr.units) (de_bin suits_mod (de_callTy suits_int_ rfl Z.b_int boot_int (da_cons (de_var (i := 6)) da_nil)) de_int) de_int (nomark _)) (nomark _)) da_nil)))))))) (dss_one (ds_ret de_bl)) dss_nil)))) (dss_cons (ds_set (i := 8) sc__law_refused_right.nd (de_callX (ok__law_run Z) tkF hr (da_cons (de_callX (ok__law_end Z) tkF hr (da_cons (de_var (i := 1)) (da_cons de_int da_nil))) (da_cons (de_bin suits_mul (de_lst (da_cons (de_var (i := 4)) da_nil)) de_int) (da_cons (de_bin suits_mul (de_lst (da_cons (de_lst da_nil) da_nil)) de_int) da_nil))))) (dss_one (ds_ret (de_callX (ok__law_same Z REC) tkF hr (da_cons (de_callX (ok__law_asked Z) tkF hr (da_cons de_int (da_cons (de_lst (da_cons (de_var (i := 2)) (da_cons (de_bin suits_mul (de_lst (da_cons (de_var (i := 4)) da_nil)) de_int) (da_cons de_int da_nil)))) (da_cons (de_var (i := 3)) da_nil)))) (da_cons (de_lst (da_cons de_str (da_cons (de_tup (da_cons (de_ix hr.u1 (de_var (i := 8)) de_int) (da_cons (de_ix hr.u1 (de_ix hr.u1 (de_var (i := 8)) de_int) (de_neg de_int)) da_nil))) da_nil))) da_nil)) (by decide) (ar__law_same REC))))))))
theorem sc_law : FnScope ["script", "k", "box", "by_name", "wide", "sizes", "net", "made"] ["script"] (defScope s60) := ⟨rfl, rfl, rfl, by decide +kernel, rfl, by decide +kernel, by decide +kernel⟩
def b_law : FS := fSeq (fFor (fRng1 (aCons (fCall (op2 opMax2) (aCons (fC (.int 2)) (aCons (fCall (op2 opMin2) (aCons (fC (.int 3)) (aCons (fCall (op1 opLen) (aCons (fVar 0) aNil)) aNil))) aNil))) aNil)) (tName 1) (fSeq (fSet 2 (fApp m__law_box (aCons (fApp m__law_cell (aCons (fVar 0) (aCons (fVar 1) aNil))) aNil))) (fSeq (fPar 3 4 (fBin opEq (fApp m__law_take (aCons (fVar 2) (aCons (fC (.int 2)) aNil))) (fC (.int 1))) (fAnd (fBin opEq (fApp m__law_take (aCons (fVar 2) (aCons (fC (.int 8)) aNil))) (fC (.int 0))) (fBin opEq (fVar 1) (fC (.int 0))))) (fSeq (fSet 5 (fIf (fTr (fVar 4)) (fLst (aCons (fC (.int 24)) (aCons (fC (.int 24)) (aCons (fBin opAdd (fC (.int 20)) (fApp m__law_take (aCons (fVar 2) (aCons (fC (.int 41)) aNil)))) (aCons (fC (.int 24)) aNil))))) (fLst (aCons (fApp m__law_take (aCons (fVar 2) (aCons (fC (.int 4)) aNil))) (aCons (fApp m__law_take (aCons (fVar 2) (aCons (fC (.int 5)) aNil))) (aCons (fApp m__law_take (aCons (fVar 2) (aCons (fC (.int 10)) aNil))) (aCons (fApp m__law_take (aCons (fVar 2) (aCons (fC (.int 5)) aNil))) aNil))))))) (fSeq (fSet 6 (fApp m__law_drawn (aCons (fVar 2) (aCons (fBin opIx (fVar 5) (fC (.int 0))) (aCons (fBin opIx (fVar 5) (fC (.int 1))) (aCons (fBin opIx (fVar 5) (fC (.int 2))) (aCons (fBin opIx (fVar 5) (fC (.int 3))) (aCons (fBin opIx (fLst (aCons (fC (.int 0)) (aCons (fC (.int 3)) (aCons (fC (.int 6)) aNil)))) (fApp m__law_take (aCons (fVar 2) (aCons (fC (.int 3)) aNil)))) aNil)))))))) (fSeq (fSet 7 (fApp m__law_made (aCons (fVar 6) aNil))) (fSeq (fIfS (tfOr (tfNot (fTr (fApp m__law_ends_right (aCons (fVar 6) (aCons (fVar 7) (aCons (fVar 3) aNil)))))) (tfNot (fTr (fApp m__law_extremes_right (aCons (fVar 2) (aCons (fVar 6) (aCons (fVar 7) (aCons (fNotT (fTr (fVar 3))) aNil)))))))) (fRet (fC (.bl false))) fNext) (fIfS (tfOr (tfNot (fTr (fApp m__law_hurt_right (aCons (fVar 2) (aCons (fVar 6) (aCons (fVar 7) aNil)))))) (tfNot (fTr (fApp m__law_refused_right (aCons (fVar 2) (aCons (fVar 6) (aCons (fVar 7) (aCons (fVar 3) aNil)))))))) (fRet (fC (.bl false))) fNext)))))))) (fRet (fC (.bl true)))
def m_law : Mean := fnM false 1 8 b_law
theorem ok_law (Z : Zf K mg) {f0 : Addr} {fd0 : FuncData} (F0 : FnAt K "law" "law" s60 f0 fd0) : FnOk P w K mg base (L2.CX P w) 16 f0 fd0 ["script"] (spD K (He.ga K) 1 m_law) :=
  def_all (k := 15) (fb := b_law) false 1 8 rfl rfl sc_law (fun f cdv A outer s H E hr =>
    dss_cons (ds_for ppF rfl (di_rng1 rfl Z.b_range (da_cons (de_callB (suits_max2 rfl) rfl Z.b_max boot_max (da_cons de_int (da_cons (de_callB (suits_min2 rfl) rfl Z.b_min boot_min (da_cons de_int (da_cons (de_callB suits_len rfl Z.b_len boot_len (da_cons (de_var (i := 0)) da_nil)) da_nil))) da_nil))) da_nil)) (dg_name (i := 1) sc_law.nd) (dss_cons (ds_set (i := 2) sc_law.nd (de_callX (ok__law_box Z) tkF hr (da_cons (de_callX (ok__law_cell Z) tkF hr (da_cons (de_var (i := 0)) (da_cons (de_var (i := 1)) da_nil))) da_nil))) (dss_cons (ds_par (i := 3) (j := 4) rfl sc_law.nd (de_cmp (suits_eq hr.units) (de_callX (ok__law_take Z) tkF hr (da_cons (de_var (i := 2)) (da_cons de_int da_nil))) de_int (nomark _)) (de_and (de_cmp (suits_eq hr.units) (de_callX (ok__law_take Z) tkF hr (da_cons (de_var (i := 2)) (da_cons de_int da_nil))) de_int (nomark _)) (de_one (de_cmp (suits_eq hr.units) (de_var (i := 1)) de_int (nomark _))))) (dss_cons (ds_set (i := 5) sc_law.nd (de_if (dt_tru (de_var (i := 4))) (de_lst (da_cons de_int (da_cons de_int (da_cons (de_bin suits_add de_int (de_callX (ok__law_take Z) tkF hr (da_cons (de_var (i := 2)) (da_cons de_int da_nil)))) (da_cons de_int da_nil))))) (de_lst (da_cons (de_callX (ok__law_take Z) tkF hr (da_cons (de_var (i := 2)) (da_cons de_int da_nil))) (da_cons (de_callX (ok__law_take Z) tkF hr (da_cons (de_var (i := 2)) (da_cons de_int da_nil))) (da_cons (de_callX (ok__law_take Z) tkF hr (da_cons (de_var (i := 2)) (da_cons de_int da_nil))) (da_cons (de_callX (ok__law_take Z) tkF hr (da_cons (de_var (i := 2)) (da_cons de_int da_nil))) da_nil))))))) (dss_cons (ds_set (i := 6) sc_law.nd (de_callX (ok__law_drawn Z) tkF hr (da_cons (de_var (i := 2)) (da_cons (de_ix hr.u1 (de_var (i := 5)) de_int) (da_cons (de_ix hr.u1 (de_var (i := 5)) de_int) (da_cons (de_ix hr.u1 (de_var (i := 5)) de_int) (da_cons (de_ix hr.u1 (de_var (i := 5)) de_int) (da_cons (de_ix hr.u1 (de_lst (da_cons de_int (da_cons de_int (da_cons de_int da_nil)))) (de_callX (ok__law_take Z) tkF hr (da_cons (de_var (i := 2)) (da_cons de_int da_nil)))) da_nil)))))))) (dss_cons (ds_set (i := 7) sc_law.nd (de_callX (ok__law_made Z) tkF hr (da_cons (de_var (i := 6)) da_nil))) (dss_cons (ds_if (dt_w (dw_or (dt_not (dt_tru (de_callX (ok__law_ends_right Z) tkF hr (da_cons (de_var (i := 6)) (da_cons (de_var (i := 7)) (da_cons (de_var (i := 3)) da_nil)))))) (dw_or1 (dt_not (dt_tru (de_callX (ok__law_extremes_right Z) tkF hr (da_cons (de_var (i := 2)) (da_cons (de_var (i := 6)) (da_cons (de_var (i := 7)) (da_cons (de_notT (de_var (i := 3))) da_nil)))))))))) (dss_one (ds_ret de_bl)) dss_nil) (dss_one (ds_if (dt_w (dw_or (dt_not (dt_tru (de_callX (ok__law_hurt_right Z) tkF hr (da_cons (de_var (i := 2)) (da_cons (de_var (i := 6)) (da_cons (de_var (i := 7)) da_nil)))))) (dw_or1 (dt_not (dt_tru (de_callX (ok__law_refused_right Z) tkF hr (da_cons (de_var (i := 2)) (da_cons (de_var (i := 6)) (da_cons (de_var (i := 7)) (da_cons (de_var (i := 3)) da_nil)))))))))) (dss_one (ds_ret de_bl)) dss_nil))))))))) (dss_one (ds_ret de_bl))) F0
end
abbrev Rw : PySem.W.OpenRow := PySem.W.OpenLaw.row PySem.Challenge.rw_rightordark_k10_plain_nets_and_tops
abbrev hk : PySem.W.Hook := hookY 4 fa fn ex
def ob (s : PySem.W.SharedT) : AlY := obsY 4 fa fn ex (HandSHeadRun.getT s)
theorem ob_eq (s : PySem.W.SharedT) : ob s = hk.obs s.abs := obsY_eq (HandSHeadRun.getT_eq s)
theorem run (w : World) : HandSHeadRun.RunEq Rw (PySem.W.view Rw.prog [81]) hk ob 20000 names w := by
  intro os
  kernel_rfl
end LW
namespace LW
open PySem PySem.Spec PyProof.Rows L2 DL
abbrev Ok (m : Mem) : Prop := lowM m.length m = true
theorem p_is_integer {m : Mem} {i : Int} (hm : Ok m) : m_is_integer m [.int i] = .ok (.bl true) m := by
  refine fn_rt rfl (d := .bl true) ?_ (leave_same hm rfl)
  simp [b_is_integer, fRet, fAnd, f1, fNotT, fTr, startE, isiD, fVar, subTy, tyD, R.bind, R.bindS, asTr, truD]
theorem p_is_between {m : Mem} {i a b : Int} (hm : Ok m) : m_is_between m [.int i, .int a, .int b] = .ok (.bl (decide (a ≤ i) && decide (i ≤ b))) m := by
  refine fn_rt rfl (d := .bl (decide (a ≤ i) && decide (i ≤ b))) ?_ (leave_same hm rfl)
  by_cases h : a ≤ i <;> simp [b_is_between, fRet, fAnd, fApp, aCons, aNil, fChain, cmpI, fBin, startE, fVar, R.bind, R.bindS, p_is_integer hm, h]
theorem p_is_index {m : Mem} {i n : Int} (hm : Ok m) : m_is_index m [.int i, .int n] = .ok (.bl (decide (0 ≤ i) && decide (i ≤ n - 1))) m := by
  refine fn_rt rfl (d := .bl (decide (0 ≤ i) && decide (i ≤ n - 1))) ?_ (leave_same hm rfl)
  simp [b_is_index, fRet, fApp, aCons, aNil, fBin, opSub, fC, startE, fVar, R.bind, R.bindS, p_is_between hm]
/-! words -/
def isBit (c : Nat) : Bool := decide (c = 48) || decide (c = 49)
def bitC (b : Bool) : Nat := if b then 49 else 48
def bitS (bs : List Bool) : Str := ⟨(bs.map bitC).toArray⟩
theorem blsD_of (bs : List Bool) : blsD (bs.map D.bl) = some bs := by
  induction bs with
  | nil => rfl
  | cons b bs ih => simp [blsD, ih]
theorem opAll_of {m : Mem} (bs : List Bool) : opAll m (.lst (bs.map D.bl)) = .ok (.bl (bs.all _root_.id)) m := by
  simp [opAll, opBls, rlstOf, lstOf, blsD_of]
theorem opAny_of {m : Mem} (bs : List Bool) : opAny m (.lst (bs.map D.bl)) = .ok (.bl (bs.any _root_.id)) m := by
  simp [opAny, opBls, rlstOf, lstOf, blsD_of]
theorem opIn_bit {m : Mem} (c : Nat) : opIn m (.str ⟨#[c]⟩) (.str "01") = .ok (.bl (isBit c)) m := by
  have e : ((("01" : Str).cps.toList)) = [48, 49] := by decide
  simp [opIn, inD, e, isBit]
theorem le24 {n : Nat} : ((n : Int) ≤ 24) ↔ n ≤ 24 := by omega
theorem blsD_map {α : Type} (f : α → Bool) (xs : List α) : blsD (xs.map (D.bl ∘ f)) = some (xs.map f) := by
  induction xs with
  | nil => rfl
  | cons b bs ih => simp [blsD, ih]
theorem opAll_map {α : Type} {m : Mem} (f : α → Bool) (xs : List α) : opAll m (.lst (xs.map (D.bl ∘ f))) = .ok (.bl (xs.all f)) m := by
  simp [opAll, opBls, rlstOf, lstOf, LW.blsD_map, List.all_map]
theorem opAny_map {α : Type} {m : Mem} (f : α → Bool) (xs : List α) : opAny m (.lst (xs.map (D.bl ∘ f))) = .ok (.bl (xs.any f)) m := by
  simp [opAny, opBls, rlstOf, lstOf, LW.blsD_map, List.any_map]
theorem chars_len (x : Str) : (chars x).length = x.length := by simp [chars]; rfl
theorem p_is_word {m : Mem} {x : Str} (hm : Ok m) (hx : x.length ≤ 1000) : m_is_word m [.str x] = .ok (.bl (decide (x.length ≤ 24) && x.cps.toList.all isBit)) m := by
  refine fn_rt rfl (d := .bl (decide (x.length ≤ 24) && x.cps.toList.all isBit)) ?_ (leave_same hm rfl)
  have hl : x.length ≤ sizeLine := by rw [sizeLine_eq]; omega
  have hlc : lcGo (.its (chars x)) (tName 1) fYes (fBin opIn (fVar 1) (fC (.str "01"))) [some (.str x), none] ((chars x).length + 1) 0 [] m = .ok (x.cps.toList.map (D.bl ∘ isBit)) m := by
    rw [lc_map' (fun d => match d with | .str y => .bl (y.cps.toList.all isBit) | _ => .non) (by rw [chars_len]; exact hl)]
    · simp [chars, Function.comp_def]
    · intro d hd
      obtain ⟨c, hc, rfl⟩ := List.mem_map.mp hd
      refine ⟨_, rfl, rfl, ?_⟩
      simp [fBin, fVar, fC, R.bind, opIn_bit]
  by_cases h : x.length ≤ 24 <;>
    simp [b_is_word, fRet, fAnd, f1, isiD, subTy, tyD, startE, fVar, R.bind, R.bindS, fBin, fCall, op1, aCons, aNil, opLen, lenD, hl, fC, opLe, le24, h, fLc, lcAll, fItr, itrOf, srcOf, Src.items, wipeE, fuel_its, hlc, opAll_map]
end LW
namespace LW
open PySem PySem.Spec PyProof.Rows L2 DL
structure G where
  k : Nat
  ws : List Nat
def kS : Nat → Str
  | 0 => "and"
  | 1 => "or"
  | _ => "not"
def eI (n : Nat) : D := .int (n : Int)
def eW (ws : List Nat) : D := .tup (ws.map eI)
def eG (g : G) : D := .tup [.str (kS g.k), eW g.ws]
structure Nt where
  ins : Nat
  first : List Bool
  gs : List G
  nx : List Nat
  ou : List Nat
def Nt.own (n : Nt) : Nat := n.ins + n.first.length
def Nt.wires (n : Nt) : Nat := n.ins + n.first.length + n.gs.length
def eNet (n : Nt) : D := .lst [eI n.ins, .str (bitS n.first), .tup (n.gs.map eG), eW n.nx, eW n.ou]
def eObj (n : Nt) : D := .obj "Net" ["ins", "first", "gates", "latches", "wires", "nexts", "outs"] [eI n.ins, .str (bitS n.first), .tup (n.gs.map eG), eI n.first.length, eI n.wires, eW n.nx, eW n.ou]
structure GOk (g : G) (own : Nat) : Prop where
  k : g.k ≤ 2
  w : ∀ w ∈ g.ws, w < own
  l : g.ws.length ≤ 3
  n : g.k = 2 → g.ws.length = 1
structure NOk (n : Nt) : Prop where
  i : n.ins ≤ 24
  f : n.first.length ≤ 24
  g : n.gs.length ≤ 60
  gs : ∀ i g, n.gs[i]? = some g → GOk g (n.own + i)
  nl : n.nx.length = n.first.length
  nw : ∀ w ∈ n.nx, w < n.wires
  ol : n.ou.length ≤ 24
  ow : ∀ w ∈ n.ou, w < n.wires
theorem lc_all {its : List D} {tg : TgD} {ft : FT} {fe : FE} {env0 : DL.Env} {m : Mem} (hz : its.length ≤ sizeLine)
    (h : ∀ d ∈ its, ∃ e1, tg d env0 m = some e1 ∧ ft e1 m = .ok true m ∧ fe e1 m = .ok (.bl true) m) :
    lcGo (.its its) tg ft fe env0 (its.length + 1) 0 [] m = .ok (List.replicate its.length (.bl true)) m := by
  rw [lc_map' (fun _ => .bl true) hz h, List.map_const']
theorem opAll_rep {m : Mem} (n : Nat) : opAll m (.lst (List.replicate n (.bl true))) = .ok (.bl true) m := by
  have e := opAll_of (m := m) (List.replicate n true)
  rw [List.map_replicate] at e
  rw [e]
  simp
theorem p_are_wires {m : Mem} {ws : List Nat} {n : Nat} (hm : Ok m) (hl : ws.length ≤ 1000) (h : ∀ w ∈ ws, w < n) : m_are_wires m [eW ws, .int n] = .ok (.bl true) m := by
  refine fn_rt rfl (d := .bl true) ?_ (leave_same hm rfl)
  have hlc : lcGo (.its (ws.map eI)) (tName 2) fYes (fApp m_is_index (aCons (fVar 2) (aCons (fVar 1) aNil))) [some (eW ws), some (.int n), none] ((ws.map eI).length + 1) 0 [] m = .ok (List.replicate (ws.map eI).length (.bl true)) m := by
    refine lc_all ?_ fun d hd => ?_
    · rw [sizeLine_eq, List.length_map]
      omega
    obtain ⟨w, hw, rfl⟩ := List.mem_map.mp hd
    refine ⟨_, rfl, rfl, ?_⟩
    have := h w hw
    have e : (w : Int) ≤ (n : Int) - 1 := by omega
    simp [fRet, fAnd, fOr, f1, fNot, fNotT, fNotV, fTr, fB, asB, asTr, truD, tfAnd, tfOr, tfNot, isiD, subTy, tyD, startE, fVar, R.bind, R.bindS, S.bind, fBin, fCall, op1, op2, aCons, aNil, fC, fApp, fAppK, fSeq, fSet, fIfS, fIf, fNext, fExpr, fTup, fLst, fPar, fAsg, tTupG, tConsG, tNilG, tName, fItr, itrOf, srcOf, fLc, lcAll, wipeE, fEnm, enmOf, fRng1, rng1, fYes, opLen, lenD, opIx, seqOf, rlstOf, lstOf, fuel_its, opSub, opLe, opLt, opGt, opGe, opIs, isD, opEq, opNe, eqD, fChain, cmpI, fNeg, Src.items, Option.isSome_some, eI, p_is_index hm, e]
  rw [eW] at hlc ⊢
  simp [fRet, fAnd, fOr, f1, fNot, fNotT, fNotV, fTr, fB, asB, asTr, truD, tfAnd, tfOr, tfNot, isiD, subTy, tyD, startE, fVar, R.bind, R.bindS, S.bind, fBin, fCall, op1, op2, aCons, aNil, fC, fApp, fAppK, fSeq, fSet, fIfS, fIf, fNext, fExpr, fTup, fLst, fPar, fAsg, tTupG, tConsG, tNilG, tName, fItr, itrOf, srcOf, fLc, lcAll, wipeE, fEnm, enmOf, fRng1, rng1, fYes, opLen, lenD, opIx, seqOf, rlstOf, lstOf, fuel_its, opSub, opLe, opLt, opGt, opGe, opIs, isD, opEq, opNe, eqD, fChain, cmpI, fNeg, Src.items, Option.isSome_some, b_are_wires, hlc, opAll_rep, -List.length_map]
end LW
namespace LW
open PySem PySem.Spec PyProof.Rows L2 DL
theorem atI_nat {α : Type} (xs : List α) (n : Nat) : atI xs (n : Int) = xs[n]? := by
  unfold atI ixN
  rw [if_pos (Int.natCast_nonneg n)]
  by_cases h : n < xs.length
  · rw [if_pos (by omega)]
    rfl
  · rw [if_neg (by omega), List.getElem?_eq_none (by omega)]
    rfl
theorem at0 {α : Type} (a : α) (xs : List α) : atI (a :: xs) 0 = some a := atI_nat _ 0
theorem at1 {α : Type} (a b : α) (xs : List α) : atI (a :: b :: xs) 1 = some b := atI_nat _ 1
theorem at2 {α : Type} (a b c : α) (xs : List α) : atI (a :: b :: c :: xs) 2 = some c := atI_nat _ 2
theorem at3 {α : Type} (a b c d : α) (xs : List α) : atI (a :: b :: c :: d :: xs) 3 = some d := atI_nat _ 3
theorem at4 {α : Type} (a b c d e : α) (xs : List α) : atI (a :: b :: c :: d :: e :: xs) 4 = some e := atI_nat _ 4
/-- op lemmas that keep their words closed -/
theorem ix_tup {m : Mem} {xs : List D} {i : Int} {d : D} (h : atI xs i = some d) : opIx m (.tup xs) (.int i) = .ok d m := by
  show (match atI xs i with | some d => _ | none => _) = _
  rw [h]
theorem ix_lst {m : Mem} {xs : List D} {i : Int} {d : D} (h : atI xs i = some d) : opIx m (.lst xs) (.int i) = .ok d m := by
  show (match atI xs i with | some d => _ | none => _) = _
  rw [h]
theorem len_tup {m : Mem} {xs : List D} : opLen m (.tup xs) = .ok (.int xs.length) m := rfl
theorem len_lst {m : Mem} {xs : List D} : opLen m (.lst xs) = .ok (.int xs.length) m := rfl
theorem len_eW {m : Mem} {ws : List Nat} : opLen m (eW ws) = .ok (.int ws.length) m := by rw [eW, len_tup, List.length_map]
theorem len_str {m : Mem} {x : Str} (h : x.length ≤ 1000) : opLen m (.str x) = .ok (.int x.length) m := by
  have hl : x.length ≤ sizeLine := by rw [sizeLine_eq]; omega
  simp [opLen, lenD, hl]
theorem srcOf_tup {xs : List D} : srcOf (.tup xs) = some (.its xs) := rfl
theorem srcOf_lst {xs : List D} : srcOf (.lst xs) = some (.its xs) := rfl
theorem its_some {m : Mem} {ds : List D} : (Src.items m (.its ds)).isSome = true := rfl
theorem enm_some {m : Mem} {ds : List D} : (Src.items m (.enm (.its ds))).isSome = true := rfl
theorem p_is_tuple {m : Mem} {xs : List D} {n : Int} (hm : Ok m) (h : (xs.length : Int) = n) : m_is_tuple m [.tup xs, .int n] = .ok (.bl true) m := by
  refine fn_rt rfl (d := .bl true) ?_ (leave_same hm rfl)
  simp [fRet, fAnd, fOr, f1, fNot, fNotT, fNotV, fTr, fB, asB, asTr, truD, tfAnd, tfOr, tfNot, isiD, subTy, tyD, startE, fVar, R.bind, R.bindS, S.bind, fBin, fCall, op1, op2, aCons, aNil, fC, fApp, fAppK, fSeq, fSet, fIfS, fIf, fNext, fExpr, fTup, fLst, fPar, fAsg, tTupG, tConsG, tNilG, tName, fItr, itrOf, srcOf, fLc, lcAll, wipeE, fEnm, enmOf, fRng1, rng1, fYes, opLen, lenD, opIx, seqOf, rlstOf, lstOf, fuel_its, opSub, opLe, opLt, opGt, opGe, opIs, isD, opEq, opNe, eqD, fChain, cmpI, fNeg, Src.items, Option.isSome_some, b_is_tuple, h]
theorem in_and {m : Mem} : opIn m (.str "and") (.tup [.str "and", .str "or"]) = .ok (.bl true) m := by with_unfolding_all rfl
theorem in_or {m : Mem} : opIn m (.str "or") (.tup [.str "and", .str "or"]) = .ok (.bl true) m := by with_unfolding_all rfl
theorem p_is_gate {m : Mem} {g : G} {own : Nat} (hm : Ok m) (h : GOk g own) : m_is_gate m [eG g, .int own] = .ok (.bl true) m := by
  obtain ⟨k, ws⟩ := g
  obtain ⟨hk, hw, hl, hn⟩ := h
  dsimp only at hk hw hl hn
  have hw := p_are_wires hm (by omega) hw
  have e64 : (ws.length : Int) ≤ 64 := by omega
  have ez : 2 ≤ sizeLine := by rw [sizeLine_eq]; omega
  have e1 : ("and" : Str) ≠ "not" := by decide
  have e2 : ("or" : Str) ≠ "not" := by decide
  refine fn_rt rfl (d := .bl true) ?_ (leave_same hm rfl)
  match k, hk with
  | 0, _ =>
    have ht := p_is_tuple (xs := [.str "and", eW ws]) (n := 2) hm rfl
    simp [fRet, fAnd, fOr, f1, fNot, fNotT, fNotV, fTr, fB, asB, asTr, truD, tfAnd, tfOr, tfNot, isiD, subTy, tyD, startE, fVar, R.bind, R.bindS, S.bind, fBin, fCall, op1, op2, aCons, aNil, fC, fApp, fAppK, fSeq, fSet, fIfS, fIf, fNext, fExpr, fTup, fLst, fPar, fAsg, tTupG, tConsG, tNilG, tName, fItr, itrOf, srcOf, fLc, lcAll, wipeE, fEnm, enmOf, fRng1, rng1, fYes, fuel_its, opSub, opLe, opLt, opGt, opGe, opIs, isD, opEq, opNe, eqD, fChain, cmpI, fNeg, Option.isSome_some, srcOf_tup, srcOf_lst, its_some, enm_some, b_is_gate, eG, kS, ht, hw, at0, at1, ix_tup, len_eW, e1, in_and, e64, ez]
  | 1, _ =>
    have ht := p_is_tuple (xs := [.str "or", eW ws]) (n := 2) hm rfl
    simp [fRet, fAnd, fOr, f1, fNot, fNotT, fNotV, fTr, fB, asB, asTr, truD, tfAnd, tfOr, tfNot, isiD, subTy, tyD, startE, fVar, R.bind, R.bindS, S.bind, fBin, fCall, op1, op2, aCons, aNil, fC, fApp, fAppK, fSeq, fSet, fIfS, fIf, fNext, fExpr, fTup, fLst, fPar, fAsg, tTupG, tConsG, tNilG, tName, fItr, itrOf, srcOf, fLc, lcAll, wipeE, fEnm, enmOf, fRng1, rng1, fYes, fuel_its, opSub, opLe, opLt, opGt, opGe, opIs, isD, opEq, opNe, eqD, fChain, cmpI, fNeg, Option.isSome_some, srcOf_tup, srcOf_lst, its_some, enm_some, b_is_gate, eG, kS, ht, hw, at0, at1, ix_tup, len_eW, e2, in_or, e64, ez]
  | 2, _ =>
    have ht := p_is_tuple (xs := [.str "not", eW ws]) (n := 2) hm rfl
    simp [fRet, fAnd, fOr, f1, fNot, fNotT, fNotV, fTr, fB, asB, asTr, truD, tfAnd, tfOr, tfNot, isiD, subTy, tyD, startE, fVar, R.bind, R.bindS, S.bind, fBin, fCall, op1, op2, aCons, aNil, fC, fApp, fAppK, fSeq, fSet, fIfS, fIf, fNext, fExpr, fTup, fLst, fPar, fAsg, tTupG, tConsG, tNilG, tName, fItr, itrOf, srcOf, fLc, lcAll, wipeE, fEnm, enmOf, fRng1, rng1, fYes, fuel_its, opSub, opLe, opLt, opGt, opGe, opIs, isD, opEq, opNe, eqD, fChain, cmpI, fNeg, Option.isSome_some, srcOf_tup, srcOf_lst, its_some, enm_some, b_is_gate, eG, kS, ht, hw, at0, at1, ix_tup, len_eW, hn rfl]
theorem items_enm {m : Mem} {ds : List D} : Src.items m (.enm (.its ds)) = some (pairsFrom 0 ds) := rfl
theorem pairs_len : ∀ (ds : List D) (k : Nat), (pairsFrom k ds).length = ds.length
  | [], _ => rfl
  | d :: ds, k => by rw [pairsFrom, List.length_cons, List.length_cons, pairs_len ds]
theorem pairs_get : ∀ (ds : List D) (k i : Nat), (pairsFrom k ds)[i]? = ds[i]?.map fun d => .tup [.int ((k + i : Nat) : Int), d]
  | [], _, _ => rfl
  | d :: ds, k, 0 => rfl
  | d :: ds, k, i + 1 => by
    rw [pairsFrom, List.getElem?_cons_succ, List.getElem?_cons_succ, pairs_get ds, Nat.add_assoc, Nat.add_comm 1 i]
theorem pairs_map (ds : List D) : pairsFrom 0 ds = ds.mapIdx fun i d => .tup [.int (i : Int), d] := by
  apply List.ext_getElem?
  intro i
  rw [pairs_get, List.getElem?_mapIdx, Nat.zero_add]
/-- a comprehension over enumerate is one over pairs -/
theorem lc_enm {ds : List D} {tg : TgD} {ft : FT} {fe : FE} {env0 : DL.Env} : ∀ (n i : Nat) (acc : List D) (m : Mem), lcGo (.enm (.its ds)) tg ft fe env0 n i acc m = lcGo (.its (pairsFrom 0 ds)) tg ft fe env0 n i acc m
  | 0, _, _, _ => rfl
  | n + 1, i, acc, m => by
    unfold lcGo
    rw [show Src.items m (Src.its (pairsFrom 0 ds)) = some (pairsFrom 0 ds) from rfl, items_enm]
    have ih := fun i acc m => lc_enm (tg := tg) (ft := ft) (fe := fe) (env0 := env0) (ds := ds) n i acc m
    simp only [ih]
theorem for_enm {ds : List D} {tg : TgD} {fb : FS} : ∀ (n i : Nat) (env : DL.Env) (m : Mem), forGo (.enm (.its ds)) tg fb n i env m = forGo (.its (pairsFrom 0 ds)) tg fb n i env m
  | 0, _, _, _ => rfl
  | n + 1, i, env, m => by
    unfold forGo
    rw [show Src.items m (Src.its (pairsFrom 0 ds)) = some (pairsFrom 0 ds) from rfl, items_enm]
    have ih := fun i env m => for_enm (tg := tg) (fb := fb) (ds := ds) n i env m
    simp only [ih]
theorem fuel_enm {m : Mem} {ds : List D} : Src.fuel m (.enm (.its ds)) = (pairsFrom 0 ds).length + 1 := rfl
theorem p_are_gates {m : Mem} {gs : List G} {own : Nat} (hm : Ok m) (hl : gs.length ≤ 1000) (h : ∀ i g, gs[i]? = some g → GOk g (own + i)) : m_are_gates m [.tup (gs.map eG), .int own] = .ok (.bl true) m := by
  refine fn_rt rfl (d := .bl true) ?_ (leave_same hm rfl)
  have hlc : lcGo (.its (pairsFrom 0 (gs.map eG))) (tTupG 2 (tConsG (tName 2) (tConsG (tName 3) tNilG))) fYes (fApp m_is_gate (aCons (fVar 3) (aCons (fBin opAdd (fVar 1) (fVar 2)) aNil))) [some (.tup (gs.map eG)), some (.int own), none, none] ((pairsFrom 0 (gs.map eG)).length + 1) 0 [] m = .ok (List.replicate (pairsFrom 0 (gs.map eG)).length (.bl true)) m := by
    refine lc_all ?_ fun d hd => ?_
    · rw [sizeLine_eq, pairs_len, List.length_map]
      omega
    obtain ⟨i, hi⟩ := List.mem_iff_getElem?.mp hd
    rw [pairs_get, List.getElem?_map] at hi
    cases hg : gs[i]? with
    | none => rw [hg] at hi; cases hi
    | some g =>
      rw [hg] at hi
      cases hi
      refine ⟨_, rfl, rfl, ?_⟩
      have := p_is_gate hm (h i g hg)
      rw [Int.natCast_add] at this
      simp [fRet, fAnd, fOr, f1, fNot, fNotT, fNotV, fTr, fB, asB, asTr, truD, tfAnd, tfOr, tfNot, isiD, subTy, tyD, startE, fVar, R.bind, R.bindS, S.bind, fBin, fCall, op1, op2, aCons, aNil, fC, fApp, fAppK, fSeq, fSet, fIfS, fIf, fNext, fExpr, fTup, fLst, fPar, fAsg, tTupG, tConsG, tNilG, tName, fItr, itrOf, srcOf, fLc, lcAll, wipeE, fEnm, enmOf, fRng1, rng1, fYes, fuel_its, opSub, opLe, opLt, opGt, opGe, opIs, isD, opEq, opNe, eqD, fChain, cmpI, fNeg, Option.isSome_some, srcOf_tup, srcOf_lst, its_some, enm_some, opAdd, this]
  have e : ¬ (2000 : Int) < (gs.length : Int) := by omega
  simp [fRet, fAnd, fOr, f1, fNot, fNotT, fNotV, fTr, fB, asB, asTr, truD, tfAnd, tfOr, tfNot, isiD, subTy, tyD, startE, fVar, R.bind, R.bindS, S.bind, fBin, fCall, op1, op2, aCons, aNil, fC, fApp, fAppK, fSeq, fSet, fIfS, fIf, fNext, fExpr, fTup, fLst, fPar, fAsg, tTupG, tConsG, tNilG, tName, fItr, itrOf, srcOf, fLc, lcAll, wipeE, fEnm, enmOf, fRng1, rng1, fYes, fuel_its, opSub, opLe, opLt, opGt, opGe, opIs, isD, opEq, opNe, eqD, fChain, cmpI, fNeg, Option.isSome_some, srcOf_tup, srcOf_lst, its_some, enm_some, fuel_enm, lc_enm, b_are_gates, hlc, opAll_rep, len_tup, e]
end LW
namespace LW
open PySem PySem.Spec PyProof.Rows L2 DL
theorem low_eI {k n : Nat} : (eI n).low k = true := rfl
theorem low_eW {k : Nat} {ws : List Nat} : (eW ws).low k = true := lowL_map fun _ _ => rfl
theorem low_eG {k : Nat} {g : G} : (eG g).low k = true := by
  show (true && ((eW g.ws).low k && true)) = true
  rw [low_eW]
  rfl
theorem low_gs {k : Nat} {gs : List G} : (D.tup (gs.map eG)).low k = true := lowL_map fun _ _ => low_eG
theorem low_cons {k : Nat} {d : D} {ds : List D} (h : d.low k = true) (h2 : lowL k ds = true) : lowL k (d :: ds) = true := by
  rw [lowL, h, h2]
  rfl
theorem ok_app {m : Mem} {c : C} (hm : Ok m) (hc : c.low (m.length + 1) = true) : Ok (m ++ [some c]) := by
  have e : (m ++ [some c]).length = m.length + 1 := by simp
  rw [Ok, e]
  refine lowM_app (lowM_mono (Nat.le_succ _) m hm) ?_
  rw [lowM, hc]
  rfl
theorem cell_get {m : Mem} {c : Option C} : (m ++ [c])[m.length]? = some c := by simp
theorem cell_set {m : Mem} {c d : Option C} : (m ++ [c]).set m.length d = m ++ [d] := by simp
theorem set_f1 {m : Mem} {y : D} : setFD CS FSN "ins" (m ++ [some (.ins "Net" [] [])]) (.cel m.length) y = some (m ++ [some (.ins "Net" ["ins"] [y])]) := by
  simp only [setFD, cell_get, cell_set]
  rfl
theorem set_f2 {m : Mem} {a y : D} : setFD CS FSN "first" (m ++ [some (.ins "Net" ["ins"] [a])]) (.cel m.length) y = some (m ++ [some (.ins "Net" ["ins", "first"] [a, y])]) := by
  simp only [setFD, cell_get, cell_set]
  with_unfolding_all rfl
theorem set_f3 {m : Mem} {a b y : D} : setFD CS FSN "gates" (m ++ [some (.ins "Net" ["ins", "first"] [a, b])]) (.cel m.length) y = some (m ++ [some (.ins "Net" ["ins", "first", "gates"] [a, b, y])]) := by
  simp only [setFD, cell_get, cell_set]
  with_unfolding_all rfl
theorem set_f4 {m : Mem} {a b c y : D} : setFD CS FSN "latches" (m ++ [some (.ins "Net" ["ins", "first", "gates"] [a, b, c])]) (.cel m.length) y = some (m ++ [some (.ins "Net" ["ins", "first", "gates", "latches"] [a, b, c, y])]) := by
  simp only [setFD, cell_get, cell_set]
  with_unfolding_all rfl
theorem set_f5 {m : Mem} {a b c d y : D} : setFD CS FSN "wires" (m ++ [some (.ins "Net" ["ins", "first", "gates", "latches"] [a, b, c, d])]) (.cel m.length) y = some (m ++ [some (.ins "Net" ["ins", "first", "gates", "latches", "wires"] [a, b, c, d, y])]) := by
  simp only [setFD, cell_get, cell_set]
  with_unfolding_all rfl
theorem set_f6 {m : Mem} {a b c d e y : D} : setFD CS FSN "nexts" (m ++ [some (.ins "Net" ["ins", "first", "gates", "latches", "wires"] [a, b, c, d, e])]) (.cel m.length) y = some (m ++ [some (.ins "Net" ["ins", "first", "gates", "latches", "wires", "nexts"] [a, b, c, d, e, y])]) := by
  simp only [setFD, cell_get, cell_set]
  with_unfolding_all rfl
theorem set_f7 {m : Mem} {a b c d e f y : D} : setFD CS FSN "outs" (m ++ [some (.ins "Net" ["ins", "first", "gates", "latches", "wires", "nexts"] [a, b, c, d, e, f])]) (.cel m.length) y = some (m ++ [some (.ins "Net" ["ins", "first", "gates", "latches", "wires", "nexts", "outs"] [a, b, c, d, e, f, y])]) := by
  simp only [setFD, cell_get, cell_set]
  with_unfolding_all rfl
theorem fld_c5 {m : Mem} {a b c d y : D} : fldD CS FSN "wires" (m ++ [some (.ins "Net" ["ins", "first", "gates", "latches", "wires"] [a, b, c, d, y])]) (.cel m.length) = some y := by
  simp only [fldD, objOf, cell_get]
  with_unfolding_all rfl
theorem fld_c4 {m : Mem} {a b c d y : D} : fldD CS FSN "latches" (m ++ [some (.ins "Net" ["ins", "first", "gates", "latches", "wires"] [a, b, c, d, y])]) (.cel m.length) = some d := by
  simp only [fldD, objOf, cell_get]
  with_unfolding_all rfl
section
variable {m : Mem} {n : Nt}
theorem fld_ins : fldD CS FSN "ins" m (eObj n) = some (eI n.ins) := by with_unfolding_all rfl
theorem fld_first : fldD CS FSN "first" m (eObj n) = some (.str (bitS n.first)) := by with_unfolding_all rfl
theorem fld_gates : fldD CS FSN "gates" m (eObj n) = some (.tup (n.gs.map eG)) := by with_unfolding_all rfl
theorem fld_latches : fldD CS FSN "latches" m (eObj n) = some (eI n.first.length) := by with_unfolding_all rfl
theorem fld_wires : fldD CS FSN "wires" m (eObj n) = some (eI n.wires) := by with_unfolding_all rfl
theorem fld_nexts : fldD CS FSN "nexts" m (eObj n) = some (eW n.nx) := by with_unfolding_all rfl
theorem fld_outs : fldD CS FSN "outs" m (eObj n) = some (eW n.ou) := by with_unfolding_all rfl
end
theorem bitS_len {bs : List Bool} : (bitS bs).length = bs.length := by
  show ((bs.map bitC).toArray).size = _
  simp
theorem bitS_list {bs : List Bool} : (bitS bs).cps.toList = bs.map bitC := rfl
theorem bit_ok : ∀ b, isBit (bitC b) = true := by decide
theorem word_bits {m : Mem} {bs : List Bool} (hm : Ok m) (h : bs.length ≤ 24) : m_is_word m [.str (bitS bs)] = .ok (.bl true) m := by
  rw [p_is_word hm (by rw [bitS_len]; omega), bitS_len, bitS_list]
  have e : (bs.map bitC).all isBit = true := by
    rw [List.all_map, List.all_eq_true]
    exact fun b _ => bit_ok b
  rw [e]
  simp [h]
theorem p_init {m : Mem} {n : Nt} (hm : Ok m) (h : NOk n) : m_Net_init (m ++ [some (.ins "Net" [] [])]) [.cel m.length, eI n.ins, .str (bitS n.first), .tup (n.gs.map eG), eW n.nx, eW n.ou] = .ok .non (m ++ [some (.ins "Net" ["ins", "first", "gates", "latches", "wires", "nexts", "outs"] [eI n.ins, .str (bitS n.first), .tup (n.gs.map eG), eI n.first.length, eI n.wires, eW n.nx, eW n.ou])]) := by
  have h0 : Ok (m ++ [some (.ins "Net" [] [])]) := ok_app hm rfl
  have h5 : Ok (m ++ [some (.ins "Net" ["ins", "first", "gates", "latches", "wires"] [eI n.ins, .str (bitS n.first), .tup (n.gs.map eG), .int n.first.length, .int ((n.ins : Int) + n.first.length + n.gs.length)])]) := ok_app hm (low_cons rfl (low_cons rfl (low_cons low_gs (low_cons rfl (low_cons rfl rfl)))))
  have h7 : Ok (m ++ [some (.ins "Net" ["ins", "first", "gates", "latches", "wires", "nexts", "outs"] [eI n.ins, .str (bitS n.first), .tup (n.gs.map eG), eI n.first.length, eI n.wires, eW n.nx, eW n.ou])]) := ok_app hm (low_cons rfl (low_cons rfl (low_cons low_gs (low_cons rfl (low_cons rfl (low_cons low_eW (low_cons low_eW rfl)))))))
  have e0 : (n.ins : Int) ≤ 24 := by have := h.i; omega
  have e1 := word_bits h0 h.f
  have e2 := p_are_gates h0 (Nat.le_trans h.g (by decide)) h.gs
  have e2 : m_are_gates (m ++ [some (.ins "Net" [] [])]) [.tup (n.gs.map eG), .int ((n.ins : Int) + (n.first.length : Int))] = .ok (.bl true) (m ++ [some (.ins "Net" [] [])]) := e2
  have e3 := p_are_wires h5 (by have := h.nl; have := h.f; omega) h.nw
  have e4 := p_are_wires h5 (by have := h.ol; omega) h.ow
  have ew : ((n.wires : Nat) : Int) = (n.ins : Int) + n.first.length + n.gs.length := by simp [Nt.wires]
  rw [ew] at e3 e4
  simp only [eI] at e3 e4
  have l1 : opLen (m ++ [some (.ins "Net" [] [])]) (.str (bitS n.first)) = .ok (.int n.first.length) (m ++ [some (.ins "Net" [] [])]) := by
    rw [len_str (by rw [bitS_len]; have := h.f; omega), bitS_len]
  have l2 : ∀ {m' : Mem}, opLen m' (.str (bitS n.first)) = .ok (.int n.first.length) m' := by
    intro m'
    rw [len_str (by rw [bitS_len]; have := h.f; omega), bitS_len]
  have l3 : ¬ (24 : Int) < (n.ou.length : Int) := by have := h.ol; omega
  have body : b_Net_init (startE 6 [.cel m.length, eI n.ins, .str (bitS n.first), .tup (n.gs.map eG), eW n.nx, eW n.ou]) (m ++ [some (.ins "Net" [] [])]) = .nx (startE 6 [.cel m.length, eI n.ins, .str (bitS n.first), .tup (n.gs.map eG), eW n.nx, eW n.ou]) (m ++ [some (.ins "Net" ["ins", "first", "gates", "latches", "wires", "nexts", "outs"] [eI n.ins, .str (bitS n.first), .tup (n.gs.map eG), eI n.first.length, eI n.wires, eW n.nx, eW n.ou])]) := by
    simp [fRet, fAnd, fOr, f1, fNot, fNotT, fNotV, fTr, fB, asB, asTr, truD, tfAnd, tfOr, tfNot, isiD, subTy, tyD, startE, fVar, R.bind, R.bindS, S.bind, fBin, fCall, op1, op2, aCons, aNil, fC, fApp, fAppK, fSeq, fSet, fIfS, fIf, fNext, fExpr, fTup, fLst, fPar, fAsg, tTupG, tConsG, tNilG, tName, fItr, itrOf, srcOf, fLc, lcAll, wipeE, fEnm, enmOf, fRng1, rng1, fYes, fuel_its, opSub, opLe, opLt, opGt, opGe, opIs, isD, opEq, opNe, eqD, fChain, cmpI, fNeg, Option.isSome_some, srcOf_tup, srcOf_lst, its_some, enm_some, b_Net_init, fStF, fFld, eI, opAdd, p_is_between h0, e0, e1, e2, e3, e4, set_f1, set_f2, set_f3, set_f4, set_f5, set_f6, set_f7, fld_c5, fld_c4, l2, len_tup, len_eW, h.nl, l3, ew]
  have e : (m ++ [some (C.ins "Net" [] [])]).length = (m ++ [some (C.ins "Net" ["ins", "first", "gates", "latches", "wires", "nexts", "outs"] [eI n.ins, .str (bitS n.first), .tup (n.gs.map eG), eI n.first.length, eI n.wires, eW n.nx, eW n.ou])]).length := by simp
  refine fn_nx rfl body ?_
  rw [e]
  exact leave_same h7 rfl
end LW
namespace LW
open PySem PySem.Spec PyProof.Rows L2 DL
def fN : List Str := ["ins", "first", "gates", "latches", "wires", "nexts", "outs"]
def vN (n : Nt) : List D := [eI n.ins, .str (bitS n.first), .tup (n.gs.map eG), eI n.first.length, eI n.wires, eW n.nx, eW n.ou]
theorem low_vN {k : Nat} {n : Nt} : lowL k (vN n) = true := low_cons rfl (low_cons rfl (low_cons low_gs (low_cons rfl (low_cons rfl (low_cons low_eW (low_cons low_eW rfl))))))
theorem low_eObj {k : Nat} {n : Nt} : (eObj n).low k = true := low_vN
theorem low_eNet {k : Nat} {n : Nt} : (eNet n).low k = true := low_cons rfl (low_cons rfl (low_cons low_gs (low_cons low_eW (low_cons low_eW rfl))))
theorem p_init' {m : Mem} {n : Nt} (hm : Ok m) (h : NOk n) : m_Net_init (m ++ [some (.ins "Net" [] [])]) [.cel m.length, eI n.ins, .str (bitS n.first), .tup (n.gs.map eG), eW n.nx, eW n.ou] = .ok .non (m ++ [some (.ins "Net" fN (vN n))]) := p_init hm h
theorem make_ok {m : Mem} {n : Nt} (hm : Ok m) : leaveD false m.length (C.tree (.ins "Net" fN (vN n))) (m ++ [none]) = .ok (eObj n) m := leave_app hm low_vN
theorem p_made {m : Mem} {n : Nt} (hm : Ok m) (h : NOk n) : m__law_made m [eNet n] = .ok (eObj n) m := by
  refine fn_rt rfl (d := eObj n) ?_ (leave_same hm low_eObj)
  simp [fRet, fAnd, fOr, f1, fNot, fNotT, fNotV, fTr, fB, asB, asTr, truD, tfAnd, tfOr, tfNot, isiD, subTy, tyD, startE, fVar, R.bind, R.bindS, S.bind, fBin, fCall, op1, op2, aCons, aNil, fC, fApp, fAppK, fSeq, fSet, fIfS, fIf, fNext, fExpr, fTup, fLst, fPar, fAsg, tTupG, tConsG, tNilG, tName, fItr, itrOf, srcOf, fLc, lcAll, wipeE, fEnm, enmOf, fRng1, rng1, fYes, fuel_its, opSub, opLe, opLt, opGt, opGe, opIs, isD, opEq, opNe, eqD, fChain, cmpI, fNeg, Option.isSome_some, srcOf_tup, srcOf_lst, its_some, enm_some, -List.append_assoc, b__law_made, fMake, eNet, ix_lst, at0, at1, at2, at3, at4, p_init' hm h, cell_get, cell_set]
  rw [make_ok hm]
theorem net_in : ("Net" : Str) ∈ CS := by decide
theorem isNet {m : Mem} {n : Nt} : isiC CS "Net" m (eObj n) = .ok (.bl true) m := by
  simp [isiC, eObj, net_in]
theorem p_need_net {m : Mem} {n : Nt} (hm : Ok m) : m_need_net m [eObj n] = .ok .non m := by
  refine fn_nx rfl (m' := m) (e := startE 1 [eObj n]) ?_ (leave_same hm rfl)
  simp [fRet, fAnd, fOr, f1, fNot, fNotT, fNotV, fTr, fB, asB, asTr, truD, tfAnd, tfOr, tfNot, isiD, subTy, tyD, startE, fVar, R.bind, R.bindS, S.bind, fBin, fCall, op1, op2, aCons, aNil, fC, fApp, fAppK, fSeq, fSet, fIfS, fIf, fNext, fExpr, fTup, fLst, fPar, fAsg, tTupG, tConsG, tNilG, tName, fItr, itrOf, srcOf, fLc, lcAll, wipeE, fEnm, enmOf, fRng1, rng1, fYes, fuel_its, opSub, opLe, opLt, opGt, opGe, opIs, isD, opEq, opNe, eqD, fChain, cmpI, fNeg, Option.isSome_some, srcOf_tup, srcOf_lst, its_some, enm_some, b_need_net, isNet]
def plainB (n : Nt) : Bool := n.gs.all fun g => decide (g.k ≠ 2)
theorem kS_not {k : Nat} (h : k ≤ 2) : (kS k = "not") ↔ k = 2 := by
  match k, h with
  | 0, _ => decide
  | 1, _ => decide
  | 2, _ => decide
theorem NOk.kOk {n : Nt} (h : NOk n) : ∀ g ∈ n.gs, g.k ≤ 2 := fun g hg => by
  obtain ⟨i, hi⟩ := List.mem_iff_getElem?.mp hg
  exact (h.gs i g hi).k
theorem ez2 : 2 ≤ sizeLine := by rw [sizeLine_eq]; omega
theorem ez0 : 0 ≤ sizeLine := Nat.zero_le _
theorem ez5 : 5 ≤ sizeLine := by rw [sizeLine_eq]; omega
/-- fields of the object, as words -/
theorem f_fld {f : Str} {fe : FE} {e : DL.Env} {m m1 : Mem} {d z : D} (h : fe e m = .ok d m1) (hf : fldD CS FSN f m1 d = some z) : fFld CS FSN f fe e m = .ok z m1 := by
  simp [fFld, h, hf, R.bind]
theorem p_is_plain {m : Mem} {n : Nt} (hm : Ok m) (h : NOk n) : m_is_plain m [eObj n] = .ok (.bl (plainB n)) m := by
  refine fn_rt rfl (d := .bl (plainB n)) ?_ (leave_same hm rfl)
  have hlc : lcGo (.its (n.gs.map eG)) (tTupG 2 (tConsG (tName 1) (tConsG (tName 2) tNilG))) fYes (fBin opEq (fVar 1) (fC (.str "not"))) [some (eObj n), none, none] ((n.gs.map eG).length + 1) 0 [] m = .ok (n.gs.map (D.bl ∘ fun g => decide (g.k = 2))) m := by
    rw [lc_map' (fun d => match d with | .tup (.str k :: _) => .bl (decide (k = "not")) | _ => .non) (by have := h.g; rw [sizeLine_eq, List.length_map]; omega)]
    · rw [List.map_map]
      congr 1
      refine List.map_congr_left fun g hg => ?_
      simp [eG, kS_not (h.kOk g hg)]
    · intro d hd
      obtain ⟨g, hg, rfl⟩ := List.mem_map.mp hd
      refine ⟨_, rfl, rfl, ?_⟩
      simp [fRet, fAnd, fOr, f1, fNot, fNotT, fNotV, fTr, fB, asB, asTr, truD, tfAnd, tfOr, tfNot, isiD, subTy, tyD, startE, fVar, R.bind, R.bindS, S.bind, fBin, fCall, op1, op2, aCons, aNil, fC, fApp, fAppK, fSeq, fSet, fIfS, fIf, fNext, fExpr, fTup, fLst, fPar, fAsg, tTupG, tConsG, tNilG, tName, fItr, itrOf, srcOf, fLc, lcAll, wipeE, fEnm, enmOf, fRng1, rng1, fYes, fuel_its, opSub, opLe, opLt, opGt, opGe, opIs, isD, opEq, opNe, eqD, fChain, cmpI, fNeg, Option.isSome_some, srcOf_tup, srcOf_lst, its_some, enm_some, eG]
  simp [fRet, fAnd, fOr, f1, fNot, fNotT, fNotV, fTr, fB, asB, asTr, truD, tfAnd, tfOr, tfNot, isiD, subTy, tyD, startE, fVar, R.bind, R.bindS, S.bind, fBin, fCall, op1, op2, aCons, aNil, fC, fApp, fAppK, fSeq, fSet, fIfS, fIf, fNext, fExpr, fTup, fLst, fPar, fAsg, tTupG, tConsG, tNilG, tName, fItr, itrOf, srcOf, fLc, lcAll, wipeE, fEnm, enmOf, fRng1, rng1, fYes, fuel_its, opSub, opLe, opLt, opGt, opGe, opIs, isD, opEq, opNe, eqD, fChain, cmpI, fNeg, Option.isSome_some, srcOf_tup, srcOf_lst, its_some, enm_some, b_is_plain, fFld, p_need_net hm, fld_gates, hlc, opAny_map, -List.length_map]
  simp [plainB, List.not_all_eq_any_not]
def endN (s : Nat) (n : Nt) : Nt := { n with gs := n.gs.map fun g => if g.k = 2 then ⟨s, []⟩ else g }
theorem NOk.endN {n : Nt} (h : NOk n) {s : Nat} (hs : s ≤ 1) : NOk (endN s n) where
  i := h.i
  f := h.f
  g := by simp only [LW.endN, List.length_map]; exact h.g
  gs := fun i g hg => by
    simp only [LW.endN, List.getElem?_map] at hg
    cases hq : n.gs[i]? with
    | none => rw [hq] at hg; cases hg
    | some q =>
      rw [hq] at hg
      cases hg
      by_cases hk : q.k = 2
      · simp only [hk, if_true]
        exact ⟨by simp; omega, by simp, by simp, by simp; omega⟩
      · simp only [hk, if_false]
        exact h.gs i q hq
  nl := h.nl
  nw := by simp only [Nt.wires, LW.endN, List.length_map]; exact h.nw
  ol := h.ol
  ow := by simp only [Nt.wires, LW.endN, List.length_map]; exact h.ow
theorem endN_plain {n : Nt} {s : Nat} (hs : s ≤ 1) : plainB (endN s n) = true := by
  simp only [plainB, endN, List.all_map, List.all_eq_true]
  intro g hg
  by_cases hk : g.k = 2
  · simp [hk]; omega
  · simp [hk]
theorem eG_end {g : G} {s : Nat} : eG (if g.k = 2 then ⟨s, []⟩ else g) = if g.k = 2 then .tup [.str (kS s), .tup []] else eG g := by
  split <;> rfl
theorem gs_end {n : Nt} {s : Nat} : (endN s n).gs.map eG = n.gs.map fun g => if g.k = 2 then .tup [.str (kS s), .tup []] else eG g := by
  simp only [endN, List.map_map]
  exact List.map_congr_left fun g _ => eG_end
theorem p_without {m : Mem} {n : Nt} {s : Nat} (hs : s ≤ 1) (hm : Ok m) (h : NOk n) : m_without_nots m [eObj n, eI s] = .ok (eObj (endN s n)) m := by
  refine fn_rt rfl (d := eObj (endN s n)) ?_ (leave_same hm low_eObj)
  have hlc : ∀ (d0 : D) (t : Str), t = kS s → lcGo (.its (n.gs.map eG)) (tName 4) fYes (fIf (fB (fBin opEq (fBin opIx (fVar 4) (fC (.int 0))) (fC (.str "not")))) (fVar 2) (fVar 4)) [some (eObj n), some d0, some (.tup [.str t, .tup []]), none, none] ((n.gs.map eG).length + 1) 0 [] m = .ok ((endN s n).gs.map eG) m := by
    intro d0 t et
    subst et
    rw [lc_map' (fun d => match d with | .tup (.str k :: _) => if k = "not" then .tup [.str (kS s), .tup []] else d | _ => .non) (by have := h.g; rw [sizeLine_eq, List.length_map]; omega)]
    · rw [List.map_map, gs_end]
      congr 1
      refine List.map_congr_left fun g hg => ?_
      simp [eG, kS_not (h.kOk g hg)]
    · intro d hd
      obtain ⟨g, hg, rfl⟩ := List.mem_map.mp hd
      refine ⟨_, rfl, rfl, ?_⟩
      by_cases hk : kS g.k = "not" <;> simp [fRet, fAnd, fOr, f1, fNot, fNotT, fNotV, fTr, fB, asB, asTr, truD, tfAnd, tfOr, tfNot, isiD, subTy, tyD, startE, fVar, R.bind, R.bindS, S.bind, fBin, fCall, op1, op2, aCons, aNil, fC, fApp, fAppK, fSeq, fSet, fIfS, fIf, fNext, fExpr, fTup, fLst, fPar, fAsg, tTupG, tConsG, tNilG, tName, fItr, itrOf, srcOf, fLc, lcAll, wipeE, fEnm, enmOf, fRng1, rng1, fYes, fuel_its, opSub, opLe, opLt, opGt, opGe, opIs, isD, opEq, opNe, eqD, fChain, cmpI, fNeg, Option.isSome_some, srcOf_tup, srcOf_lst, its_some, enm_some, eG, ix_tup, at0, hk]
  have hi := p_init' hm (h.endN hs)
  match s, hs with
  | 0, _ =>
    have hlc := hlc (.int 0) "and" rfl
    have hi : m_Net_init (m ++ [some (.ins "Net" [] [])]) [.cel m.length, .int n.ins, .str (bitS n.first), .tup ((endN 0 n).gs.map eG), eW n.nx, eW n.ou] = .ok .non (m ++ [some (.ins "Net" fN (vN (endN 0 n)))]) := hi
    simp [fRet, fAnd, fOr, f1, fNot, fNotT, fNotV, fTr, fB, asB, asTr, truD, tfAnd, tfOr, tfNot, isiD, subTy, tyD, startE, fVar, R.bind, R.bindS, S.bind, fBin, fCall, op1, op2, aCons, aNil, fC, fApp, fAppK, fSeq, fSet, fIfS, fIf, fNext, fExpr, fTup, fLst, fPar, fAsg, tTupG, tConsG, tNilG, tName, fItr, itrOf, srcOf, fLc, lcAll, wipeE, fEnm, enmOf, fRng1, rng1, fYes, fuel_its, opSub, opLe, opLt, opGt, opGe, opIs, isD, opEq, opNe, eqD, fChain, cmpI, fNeg, Option.isSome_some, srcOf_tup, srcOf_lst, its_some, enm_some, -List.append_assoc, -List.length_map, b_without_nots, fMake, fFld, fld_ins, fld_first, fld_gates, fld_nexts, fld_outs, ez2, ez0, eI, hlc, opTuple, rlstOf, lstOf, hi, cell_get, cell_set]
    rw [make_ok hm]
  | 1, _ =>
    have hlc := hlc (.int 1) "or" rfl
    have hi : m_Net_init (m ++ [some (.ins "Net" [] [])]) [.cel m.length, .int n.ins, .str (bitS n.first), .tup ((endN 1 n).gs.map eG), eW n.nx, eW n.ou] = .ok .non (m ++ [some (.ins "Net" fN (vN (endN 1 n)))]) := hi
    simp [fRet, fAnd, fOr, f1, fNot, fNotT, fNotV, fTr, fB, asB, asTr, truD, tfAnd, tfOr, tfNot, isiD, subTy, tyD, startE, fVar, R.bind, R.bindS, S.bind, fBin, fCall, op1, op2, aCons, aNil, fC, fApp, fAppK, fSeq, fSet, fIfS, fIf, fNext, fExpr, fTup, fLst, fPar, fAsg, tTupG, tConsG, tNilG, tName, fItr, itrOf, srcOf, fLc, lcAll, wipeE, fEnm, enmOf, fRng1, rng1, fYes, fuel_its, opSub, opLe, opLt, opGt, opGe, opIs, isD, opEq, opNe, eqD, fChain, cmpI, fNeg, Option.isSome_some, srcOf_tup, srcOf_lst, its_some, enm_some, -List.append_assoc, -List.length_map, b_without_nots, fMake, fFld, fld_ins, fld_first, fld_gates, fld_nexts, fld_outs, ez2, ez0, eI, hlc, opTuple, rlstOf, lstOf, hi, cell_get, cell_set]
    rw [make_ok hm]
theorem p_top {m : Mem} {n : Nt} (hm : Ok m) (h : NOk n) : m_top m [eObj n] = .ok (eObj (endN 0 n)) m := by
  refine fn_rt rfl (d := eObj (endN 0 n)) ?_ (leave_same hm low_eObj)
  have e : m_without_nots m [eObj n, .int 0] = .ok (eObj (endN 0 n)) m := p_without (s := 0) (by omega) hm h
  simp [fRet, fAnd, fOr, f1, fNot, fNotT, fNotV, fTr, fB, asB, asTr, truD, tfAnd, tfOr, tfNot, isiD, subTy, tyD, startE, fVar, R.bind, R.bindS, S.bind, fBin, fCall, op1, op2, aCons, aNil, fC, fApp, fAppK, fSeq, fSet, fIfS, fIf, fNext, fExpr, fTup, fLst, fPar, fAsg, tTupG, tConsG, tNilG, tName, fItr, itrOf, srcOf, fLc, lcAll, wipeE, fEnm, enmOf, fRng1, rng1, fYes, fuel_its, opSub, opLe, opLt, opGt, opGe, opIs, isD, opEq, opNe, eqD, fChain, cmpI, fNeg, Option.isSome_some, srcOf_tup, srcOf_lst, its_some, enm_some, b_top, p_need_net hm, e]
theorem p_bottom {m : Mem} {n : Nt} (hm : Ok m) (h : NOk n) : m_bottom m [eObj n] = .ok (eObj (endN 1 n)) m := by
  refine fn_rt rfl (d := eObj (endN 1 n)) ?_ (leave_same hm low_eObj)
  have e : m_without_nots m [eObj n, .int 1] = .ok (eObj (endN 1 n)) m := p_without (s := 1) (by omega) hm h
  simp [fRet, fAnd, fOr, f1, fNot, fNotT, fNotV, fTr, fB, asB, asTr, truD, tfAnd, tfOr, tfNot, isiD, subTy, tyD, startE, fVar, R.bind, R.bindS, S.bind, fBin, fCall, op1, op2, aCons, aNil, fC, fApp, fAppK, fSeq, fSet, fIfS, fIf, fNext, fExpr, fTup, fLst, fPar, fAsg, tTupG, tConsG, tNilG, tName, fItr, itrOf, srcOf, fLc, lcAll, wipeE, fEnm, enmOf, fRng1, rng1, fYes, fuel_its, opSub, opLe, opLt, opGt, opGe, opIs, isD, opEq, opNe, eqD, fChain, cmpI, fNeg, Option.isSome_some, srcOf_tup, srcOf_lst, its_some, enm_some, b_bottom, p_need_net hm, e]
def eParts (n : Nt) : D := .lst [eI n.ins, .str (bitS n.first), .tup (n.gs.map eG), eW n.nx, eW n.ou, eI n.first.length, eI n.wires]
theorem low_eParts {k : Nat} {n : Nt} : (eParts n).low k = true := low_cons rfl (low_cons rfl (low_cons low_gs (low_cons low_eW (low_cons low_eW (low_cons rfl (low_cons rfl rfl))))))
theorem ez7 : 7 ≤ sizeLine := by rw [sizeLine_eq]; omega
theorem p_parts {m : Mem} {n : Nt} (hm : Ok m) : m__law_parts m [eObj n] = .ok (eParts n) m := by
  refine fn_rt rfl (d := eParts n) ?_ (leave_same hm low_eParts)
  simp [fRet, fAnd, fOr, f1, fNot, fNotT, fNotV, fTr, fB, asB, asTr, truD, tfAnd, tfOr, tfNot, isiD, subTy, tyD, startE, fVar, R.bind, R.bindS, S.bind, fBin, fCall, op1, op2, aCons, aNil, fC, fApp, fAppK, fSeq, fSet, fIfS, fIf, fNext, fExpr, fTup, fLst, fPar, fAsg, tTupG, tConsG, tNilG, tName, fItr, itrOf, srcOf, fLc, lcAll, wipeE, fEnm, enmOf, fRng1, rng1, fYes, fuel_its, opSub, opLe, opLt, opGt, opGe, opIs, isD, opEq, opNe, eqD, fChain, cmpI, fNeg, Option.isSome_some, srcOf_tup, srcOf_lst, its_some, enm_some, b__law_parts, isNet, fFld, fld_ins, fld_first, fld_gates, fld_nexts, fld_outs, fld_latches, fld_wires, ez7, eParts]
theorem kS0 : kS 0 = "and" := rfl
theorem kS1 : kS 1 = "or" := rfl
theorem p_end {m : Mem} {n : Nt} {s : Nat} (hs : s ≤ 1) (hm : Ok m) (h : NOk n) : m__law_end m [eNet n, eI s] = .ok (eNet (endN s n)) m := by
  refine fn_rt rfl (d := eNet (endN s n)) ?_ (leave_same hm low_eNet)
  have hlc : ∀ z : D, (z = .int 0 ∧ s = 0) ∨ (z = .int 1 ∧ s = 1) → lcGo (.its (n.gs.map eG)) (tTupG 2 (tConsG (tName 3) (tConsG (tName 4) tNilG))) fYes (fIf (fB (fBin opEq (fVar 3) (fC (.str "not")))) (fTup (aCons (fBin opIx (fLst (aCons (fC (.str "and")) (aCons (fC (.str "or")) aNil))) (fVar 1)) (aCons (fTup aNil) aNil))) (fTup (aCons (fVar 3) (aCons (fVar 4) aNil)))) [some (eNet n), some z, none, none, none] ((n.gs.map eG).length + 1) 0 [] m = .ok ((endN s n).gs.map eG) m := by
    intro z hz
    rw [lc_map' (fun d => match d with | .tup (.str k :: _) => if k = "not" then .tup [.str (kS s), .tup []] else d | _ => .non) (by have := h.g; rw [sizeLine_eq, List.length_map]; omega)]
    · rw [List.map_map, gs_end]
      congr 1
      refine List.map_congr_left fun g hg => ?_
      simp [eG, kS_not (h.kOk g hg)]
    · intro d hd
      obtain ⟨g, hg, rfl⟩ := List.mem_map.mp hd
      refine ⟨_, rfl, rfl, ?_⟩
      rcases hz with ⟨rfl, rfl⟩ | ⟨rfl, rfl⟩ <;> by_cases hk : kS g.k = "not" <;> simp [fRet, fAnd, fOr, f1, fNot, fNotT, fNotV, fTr, fB, asB, asTr, truD, tfAnd, tfOr, tfNot, isiD, subTy, tyD, startE, fVar, R.bind, R.bindS, S.bind, fBin, fCall, op1, op2, aCons, aNil, fC, fApp, fAppK, fSeq, fSet, fIfS, fIf, fNext, fExpr, fTup, fLst, fPar, fAsg, tTupG, tConsG, tNilG, tName, fItr, itrOf, srcOf, fLc, lcAll, wipeE, fEnm, enmOf, fRng1, rng1, fYes, fuel_its, opSub, opLe, opLt, opGt, opGe, opIs, isD, opEq, opNe, eqD, fChain, cmpI, fNeg, Option.isSome_some, srcOf_tup, srcOf_lst, its_some, enm_some, eG, ix_lst, at0, at1, hk, ez2, ez0, kS0, kS1]
  have hz : (eI s = .int 0 ∧ s = 0) ∨ (eI s = .int 1 ∧ s = 1) := by
    match s, hs with
    | 0, _ => exact .inl ⟨rfl, rfl⟩
    | 1, _ => exact .inr ⟨rfl, rfl⟩
  have hlc := hlc _ hz
  have ix0 : opIx m (eNet n) (.int 0) = .ok (eI n.ins) m := ix_lst (at0 _ _)
  have ix1 : opIx m (eNet n) (.int 1) = .ok (.str (bitS n.first)) m := ix_lst (at1 _ _ _)
  have ix2 : opIx m (eNet n) (.int 2) = .ok (.tup (n.gs.map eG)) m := ix_lst (at2 _ _ _ _)
  have ix3 : opIx m (eNet n) (.int 3) = .ok (eW n.nx) m := ix_lst (at3 _ _ _ _ _)
  have ix4 : opIx m (eNet n) (.int 4) = .ok (eW n.ou) m := ix_lst (at4 _ _ _ _ _ _)
  simp [fRet, fAnd, fOr, f1, fNot, fNotT, fNotV, fTr, fB, asB, asTr, truD, tfAnd, tfOr, tfNot, isiD, subTy, tyD, startE, fVar, R.bind, R.bindS, S.bind, fBin, fCall, op1, op2, aCons, aNil, fC, fApp, fAppK, fSeq, fSet, fIfS, fIf, fNext, fExpr, fTup, fLst, fPar, fAsg, tTupG, tConsG, tNilG, tName, fItr, itrOf, srcOf, fLc, lcAll, wipeE, fEnm, enmOf, fRng1, rng1, fYes, fuel_its, opSub, opLe, opLt, opGt, opGe, opIs, isD, opEq, opNe, eqD, fChain, cmpI, fNeg, Option.isSome_some, srcOf_tup, srcOf_lst, its_some, enm_some, -List.length_map, b__law_end, ix0, ix1, ix2, ix3, ix4, hlc, opTuple, rlstOf, lstOf, ez5]
  rfl
end LW
namespace LW
open PySem PySem.Spec PyProof.Rows L2 DL
/-! the box of numbers -/
def bxC (a : Int) (b : Bool) (c d : Int) : C := .lst [.int a, .bl b, .int c, .int d]
def Bx (j n : Nat) (base m : Mem) : Prop := ∃ a b c d, m = base.set j (some (bxC a b c d)) ∧ 0 ≤ c ∧ c < 2147483648 ∧ 0 ≤ d ∧ d ≤ (n : Int)
theorem bx_low {a : Int} {b : Bool} {c d : Int} {k : Nat} : (bxC a b c d).low k = true := rfl
theorem Bx.ok {j n : Nat} {base m : Mem} (h : Bx j n base m) (hb : Ok base) : Ok m := by
  obtain ⟨a, b, c, d, rfl, _⟩ := h
  rw [Ok, List.length_set]
  exact lowM_set hb bx_low
theorem Bx.len {j n : Nat} {base m : Mem} (h : Bx j n base m) : m.length = base.length := by
  obtain ⟨a, b, c, d, rfl, _⟩ := h
  exact List.length_set
theorem Bx.le {j n k : Nat} {base m : Mem} (h : Bx j n base m) (hk : n ≤ k) : Bx j k base m := by
  obtain ⟨a, b, c, d, e, h1, h2, h3, h4⟩ := h
  exact ⟨a, b, c, d, e, h1, h2, h3, by omega⟩
theorem bx_get {base : Mem} {j : Nat} {c : C} (hj : j < base.length) : (base.set j (some c))[j]? = some (some c) := by
  rw [List.getElem?_set_self hj]
theorem bx_set {base : Mem} {j : Nat} {c d : Option C} : (base.set j c).set j d = base.set j d := List.set_set ..
section
variable {base : Mem} {j : Nat} {a : Int} {b : Bool} {c d : Int}
theorem bx0 (hj : j < base.length) : opIx (base.set j (some (bxC a b c d))) (.cel j) (.int 0) = .ok (.int a) (base.set j (some (bxC a b c d))) := by
  simp [opIx, seqOf, rlstOf, lstOf, bx_get hj, bxC, at0]
theorem bx1 (hj : j < base.length) : opIx (base.set j (some (bxC a b c d))) (.cel j) (.int 1) = .ok (.bl b) (base.set j (some (bxC a b c d))) := by
  simp [opIx, seqOf, rlstOf, lstOf, bx_get hj, bxC, at1]
theorem bx2 (hj : j < base.length) : opIx (base.set j (some (bxC a b c d))) (.cel j) (.int 2) = .ok (.int c) (base.set j (some (bxC a b c d))) := by
  simp [opIx, seqOf, rlstOf, lstOf, bx_get hj, bxC, at2]
theorem bx3 (hj : j < base.length) : opIx (base.set j (some (bxC a b c d))) (.cel j) (.int 3) = .ok (.int d) (base.set j (some (bxC a b c d))) := by
  simp [opIx, seqOf, rlstOf, lstOf, bx_get hj, bxC, at3]
theorem bs0 {y : Int} (hj : j < base.length) : setD (base.set j (some (bxC a b c d))) (.cel j) (.int 0) (.int y) = some (base.set j (some (bxC y b c d))) := by
  simp only [setD, bx_get hj, bxC]
  rw [show ixN [D.int a, D.bl b, D.int c, D.int d].length 0 = some 0 from rfl, Option.map_some, bx_set]
  rfl
theorem bs3 {y : Int} (hj : j < base.length) : setD (base.set j (some (bxC a b c d))) (.cel j) (.int 3) (.int y) = some (base.set j (some (bxC a b c y))) := by
  simp only [setD, bx_get hj, bxC]
  rw [show ixN [D.int a, D.bl b, D.int c, D.int d].length 3 = some 3 from rfl, Option.map_some, bx_set]
  rfl
end
theorem leave_len {m' : Mem} {d : D} {n : Nat} (hn : n = m'.length) (hm : Ok m') (hd : d.low n = true) : leaveD false n d m' = .ok d m' := by
  subst hn
  exact leave_same hm hd
theorem p_take {j n many : Nat} {base m : Mem} (hb : Ok base) (hj : j < base.length) (h : Bx j n base m) (hn : n < 10000000) (h0 : 0 < many) (h1 : many < 1000000) : ∃ r m', r < many ∧ m__law_take m [.cel j, eI many] = .ok (eI r) m' ∧ Bx j (n + 1) base m' := by
  obtain ⟨a, b, c, d, rfl, hc0, hc1, hd0, hd1⟩ := h
  have hm0 : (0 : Int) < many := by omega
  have hcd : ∀ x : Int, CDiv x many := fun x => ⟨hm0, by omega⟩
  have okm : ∀ a b c d, Ok (base.set j (some (bxC a b c d))) := fun a b c d => by
    rw [Ok, List.length_set]
    exact lowM_set hb bx_low
  have fin : ∀ x : Int, ∃ r : Nat, r < many ∧ eI r = .int (x % many) := fun x => by
    have h2 := Int.emod_lt_of_pos x hm0
    have h3 := Int.emod_nonneg x (show (many : Int) ≠ 0 by omega)
    exact ⟨(x % many).toNat, by omega, by rw [eI, Int.toNat_of_nonneg h3]⟩
  by_cases hp : b = true ∧ 0 < a
  · obtain ⟨rfl, ha⟩ := hp
    obtain ⟨r, hr, er⟩ := fin a
    refine ⟨r, base.set j (some (bxC (a / many) true c d)), hr, ?_, ⟨_, _, _, _, rfl, hc0, hc1, hd0, by omega⟩⟩
    rw [er]
    refine fn_rt rfl (m' := base.set j (some (bxC (a / many) true c d))) (d := .int (a % many)) ?_ (leave_len (by rw [List.length_set, List.length_set]) (okm _ _ _ _) rfl)
    simp [fRet, fAnd, fOr, f1, fNot, fNotT, fNotV, fTr, fB, asB, asTr, truD, tfAnd, tfOr, tfNot, isiD, subTy, tyD, startE, fVar, R.bind, R.bindS, S.bind, fBin, fCall, op1, op2, aCons, aNil, fC, fApp, fAppK, fSeq, fSet, fIfS, fIf, fNext, fExpr, fTup, fLst, fPar, fAsg, tTupG, tConsG, tNilG, tName, fItr, itrOf, srcOf, fLc, lcAll, wipeE, fEnm, enmOf, fRng1, rng1, fYes, fuel_its, opSub, opLe, opLt, opGt, opGe, opIs, isD, opEq, opNe, eqD, fChain, cmpI, fNeg, Option.isSome_some, srcOf_tup, srcOf_lst, its_some, enm_some, eI, b__law_take, fStore, bx0 hj, bx1 hj, bs0 hj, ha, opInt, opMod, opDiv, hcd, hm0, h0]
  · have hB : ∀ x : Int, 0 < (2147483647 : Int) := by omega
    have hmx := Int.emod_lt_of_pos ((c + 15487469 * (d + 1) + 179426081) ^ 5) (show (0 : Int) < 2147483647 by omega)
    have hmn := Int.emod_nonneg ((c + 15487469 * (d + 1) + 179426081) ^ 5) (show (2147483647 : Int) ≠ 0 by omega)
    obtain ⟨r, hr, er⟩ := fin (((c + 15487469 * (d + 1) + 179426081) ^ 5 % 2147483647 * 48271 + 104743 * (d + 1)) ^ 3 % 2147483587 / 64)
    refine ⟨r, base.set j (some (bxC a b c (d + 1))), hr, ?_, ⟨_, _, _, _, rfl, hc0, hc1, by omega, by omega⟩⟩
    rw [er]
    have p5 : CPow (c + 15487469 * (d + 1) + 179426081) 5 := ⟨by omega, by omega, by omega⟩
    have p3 : CPow ((c + 15487469 * (d + 1) + 179426081) ^ 5 % 2147483647 * 48271 + 104743 * (d + 1)) 3 := ⟨by omega, by omega, by omega⟩
    have cm : ∀ x y : Int, -(2 ^ 64) < x ∧ x < 2 ^ 64 → CMul x y := fun x y h => .inl h
    have m1 : CMul 15487469 (d + 1) := .inl ⟨by omega, by omega⟩
    have m2 : CMul ((c + 15487469 * (d + 1) + 179426081) ^ 5 % 2147483647) 48271 := .inr ⟨by omega, by omega⟩
    have m3 : CMul 104743 (d + 1) := .inl ⟨by omega, by omega⟩
    have c64 : ∀ x : Int, CDiv x 64 := fun x => ⟨by omega, by omega⟩
    refine fn_rt rfl (m' := base.set j (some (bxC a b c (d + 1)))) (d := .int (((c + 15487469 * (d + 1) + 179426081) ^ 5 % 2147483647 * 48271 + 104743 * (d + 1)) ^ 3 % 2147483587 / 64 % many)) ?_ (leave_len (by rw [List.length_set, List.length_set]) (okm _ _ _ _) rfl)
    cases b with
    | true =>
      have ha : ¬ 0 < a := fun x => hp ⟨rfl, x⟩
      simp [fRet, fAnd, fOr, f1, fNot, fNotT, fNotV, fTr, fB, asB, asTr, truD, tfAnd, tfOr, tfNot, isiD, subTy, tyD, startE, fVar, R.bind, R.bindS, S.bind, fBin, fCall, op1, op2, aCons, aNil, fC, fApp, fAppK, fSeq, fSet, fIfS, fIf, fNext, fExpr, fTup, fLst, fPar, fAsg, tTupG, tConsG, tNilG, tName, fItr, itrOf, srcOf, fLc, lcAll, wipeE, fEnm, enmOf, fRng1, rng1, fYes, fuel_its, opSub, opLe, opLt, opGt, opGe, opIs, isD, opEq, opNe, eqD, fChain, cmpI, fNeg, Option.isSome_some, srcOf_tup, srcOf_lst, its_some, enm_some, eI, b__law_take, fStore, bx0 hj, bx1 hj, bx2 hj, bx3 hj, bs3 hj, ha, opInt, opMod, opDiv, opMul, opAdd, opPow, hcd, hm0, h0, p5, p3, c64, m1, m2, m3]
    | false =>
      simp [fRet, fAnd, fOr, f1, fNot, fNotT, fNotV, fTr, fB, asB, asTr, truD, tfAnd, tfOr, tfNot, isiD, subTy, tyD, startE, fVar, R.bind, R.bindS, S.bind, fBin, fCall, op1, op2, aCons, aNil, fC, fApp, fAppK, fSeq, fSet, fIfS, fIf, fNext, fExpr, fTup, fLst, fPar, fAsg, tTupG, tConsG, tNilG, tName, fItr, itrOf, srcOf, fLc, lcAll, wipeE, fEnm, enmOf, fRng1, rng1, fYes, fuel_its, opSub, opLe, opLt, opGt, opGe, opIs, isD, opEq, opNe, eqD, fChain, cmpI, fNeg, Option.isSome_some, srcOf_tup, srcOf_lst, its_some, enm_some, eI, b__law_take, fStore, bx0 hj, bx1 hj, bx2 hj, bx3 hj, bs3 hj, opInt, opMod, opDiv, opMul, opAdd, opPow, hcd, hm0, h0, p5, p3, c64, m1, m2, m3]
end LW
/-! DL: evaluation word by word: what an expression or statement gives, from what its parts give -/
namespace DL
open PySem PySem.Spec PyProof.Rows L2
section
variable {env e1 e2 : Env} {m m1 m2 m3 m4 : Mem} {a b c d x y z : D} {ds es : List D} {fa fb fc fe fo fi : FE} {fs gs : FA} {t u : FT} {f g h : FS} {op : Mem → D → D → R D} {op1' : Mem → D → R D} {r : R D} {k : Bool} {s : S}
theorem e_var {i : Nat} (h : env[i]? = some (some d)) : fVar i env m = .ok d m := by
  unfold fVar
  rw [h]
theorem e_c : fC d env m = .ok d m := rfl
theorem e_bin (ha : fa env m = .ok a m1) (hb : fb env m1 = .ok b m2) (ho : op m2 a b = r) : fBin op fa fb env m = r := by
  unfold fBin
  rw [ha, R.bind, hb, R.bind, ho]
theorem e_f1 (ha : fa env m = .ok a m1) (ho : op1' m1 a = r) : f1 op1' fa env m = r := by
  unfold f1
  rw [ha, R.bind, ho]
theorem e_nil : aNil env m = .ok [] m := rfl
theorem e_cons (ha : fa env m = .ok a m1) (hs : fs env m1 = .ok ds m2) : aCons fa fs env m = .ok (a :: ds) m2 := by
  unfold aCons
  rw [ha, R.bind, hs]
theorem e_app {q : Mean} (hs : fs env m = .ok ds m1) (h : q m1 ds = r) : fApp q fs env m = r := by
  unfold fApp
  rw [hs, R.bind, h]
theorem e_appK {q : Mean} {is : List Nat} (hs : fs env m = .ok ds m1) (h : q m1 (pickAll is ds) = r) : fAppK q is fs env m = r := by
  unfold fAppK
  rw [hs, R.bind, h]
theorem e_call {q : Mem → List D → R D} (hs : fs env m = .ok ds m1) (h : q m1 ds = r) : fCall q fs env m = r := by
  unfold fCall
  rw [hs, R.bind, h]
theorem e_call1 {q : Mem → D → R D} (ha : fa env m = .ok a m1) (h : q m1 a = r) : fCall (op1 q) (aCons fa aNil) env m = r := e_call (e_cons ha e_nil) h
theorem e_call2 {q : Mem → D → D → R D} (ha : fa env m = .ok a m1) (hb : fb env m1 = .ok b m2) (h : q m2 a b = r) : fCall (op2 q) (aCons fa (aCons fb aNil)) env m = r := e_call (e_cons ha (e_cons hb e_nil)) h
theorem e_tup (hs : fs env m = .ok ds m1) (hz : ds.length ≤ sizeLine) : fTup fs env m = .ok (.tup ds) m1 := by
  unfold fTup
  rw [hs, R.bind, if_pos hz]
theorem e_lst (hs : fs env m = .ok ds m1) (hz : ds.length ≤ sizeLine) : fLst fs env m = .ok (.lst ds) m1 := by
  unfold fLst
  rw [hs, R.bind, if_pos hz]
theorem e_lstC (hs : fs env m = .ok ds m1) (hz : ds.length ≤ sizeLine) : fLstC fs env m = .ok (.cel m1.length) (m1 ++ [some (.lst ds)]) := by
  unfold fLstC
  rw [hs, R.bind, if_pos hz]
theorem e_fld {cs fsn : List Str} {w : Str} (ha : fa env m = .ok a m1) (hf : fldD cs fsn w m1 a = some z) : fFld cs fsn w fa env m = .ok z m1 := by
  unfold fFld
  rw [ha, R.bind, hf]
/-! tests -/
theorem e_and1 (ha : fa env m = .ok (.bl true) m1) (hb : fb env m1 = r) : fAnd fa fb env m = r := by
  unfold fAnd
  rw [ha, R.bind, hb]
theorem e_and0 (ha : fa env m = .ok (.bl false) m1) : fAnd fa fb env m = .ok (.bl false) m1 := by
  unfold fAnd
  rw [ha, R.bind]
theorem e_and {p q : Bool} (ha : fa env m = .ok (.bl p) m) (hb : fb env m = .ok (.bl q) m) : fAnd fa fb env m = .ok (.bl (p && q)) m := by
  cases p
  · exact e_and0 ha
  · exact e_and1 ha hb
theorem e_tr (ha : fa env m = .ok a m1) (ht : truD m1 a = some k) : fTr fa env m = .ok k m1 := by
  unfold fTr asTr
  rw [ha, R.bind, ht]
theorem e_trb (ha : fa env m = .ok (.bl k) m1) : fTr fa env m = .ok k m1 := e_tr ha rfl
theorem e_fB (ha : fa env m = .ok (.bl k) m1) : fB fa env m = .ok k m1 := by
  unfold fB asB
  rw [ha]
theorem e_notT (ht : t env m = .ok k m1) : fNotT t env m = .ok (.bl (!k)) m1 := by
  unfold fNotT
  rw [ht, R.bind]
theorem e_tnot (ht : t env m = .ok k m1) : tfNot t env m = .ok (!k) m1 := by
  unfold tfNot
  rw [ht, R.bind]
theorem e_tor1 (ht : t env m = .ok true m1) : tfOr t u env m = .ok true m1 := by
  unfold tfOr
  rw [ht, R.bind, if_pos rfl]
theorem e_tor0 {q : R Bool} (ht : t env m = .ok false m1) (hu : u env m1 = q) : tfOr t u env m = q := by
  unfold tfOr
  rw [ht, R.bind, if_neg Bool.false_ne_true, hu]
theorem e_tand0 (ht : t env m = .ok false m1) : tfAnd t u env m = .ok false m1 := by
  unfold tfAnd
  rw [ht, R.bind, if_neg Bool.false_ne_true]
theorem e_tand1 {q : R Bool} (ht : t env m = .ok true m1) (hu : u env m1 = q) : tfAnd t u env m = q := by
  unfold tfAnd
  rw [ht, R.bind, if_pos rfl, hu]
theorem e_if1 (ht : t env m = .ok true m1) (ha : fa env m1 = r) : fIf t fa fb env m = r := by
  unfold fIf
  rw [ht, R.bind, if_pos rfl, ha]
theorem e_if0 (ht : t env m = .ok false m1) (hb : fb env m1 = r) : fIf t fa fb env m = r := by
  unfold fIf
  rw [ht, R.bind, if_neg Bool.false_ne_true, hb]
theorem e_m1 {ok : D → Bool} (ho : fo env m = .ok d m1) (hk : ok d = true) (hx : fe env m1 = .ok x m2) (h : op m2 d x = r) : fM1 op ok fo fe env m = r := by
  unfold fM1
  rw [ho, R.bind, if_pos hk, hx, R.bind, h]
theorem e_mL {q : Mem → D → List D → R D} {kx : Nat × List D} (ho : fo env m = .ok d m1) (hk : celL m1 d = some kx) (hx : fs env m1 = .ok ds m2) (h : q m2 d ds = r) : fML q fo fs env m = r := by
  unfold fML
  rw [ho, R.bind, hk]
  dsimp only
  rw [hx, R.bind, h]
/-! statements -/
theorem e_ret (ha : fa env m = .ok a m1) : fRet fa env m = .rt a m1 := by
  unfold fRet
  rw [ha, R.bindS]
theorem e_set {i : Nat} (ha : fa env m = .ok a m1) : fSet i fa env m = .nx (env.set i (some a)) m1 := by
  unfold fSet
  rw [ha, R.bindS]
theorem e_par {i j : Nat} (ha : fa env m = .ok a m1) (hb : fb env m1 = .ok b m2) : fPar i j fa fb env m = .nx ((env.set i (some a)).set j (some b)) m2 := by
  unfold fPar
  rw [ha, R.bindS, hb, R.bindS]
theorem e_asg {tg : TgD} (ha : fa env m = .ok a m1) (ht : tg a env m1 = some e1) : fAsg fa tg env m = .nx e1 m1 := by
  unfold fAsg
  rw [ha, R.bindS, ht]
theorem e_expr (ha : fa env m = .ok a m1) : fExpr fa env m = .nx env m1 := by
  unfold fExpr
  rw [ha, R.bindS]
theorem e_seq (hf : f env m = .nx e1 m1) (hg : g e1 m1 = s) : fSeq f g env m = s := by
  unfold fSeq
  rw [hf, S.bind, hg]
theorem e_seqR (hf : f env m = .rt d m1) : fSeq f g env m = .rt d m1 := by
  unfold fSeq
  rw [hf]
theorem e_seqX {w : Str} {ws : List Str} (hf : f env m = .ex w ws ds e1 m1) : fSeq f g env m = .ex w ws ds e1 m1 := by
  unfold fSeq
  rw [hf]
theorem e_ifS1 (ht : t env m = .ok true m1) (hf : f env m1 = s) : fIfS t f g env m = s := by
  unfold fIfS
  rw [ht, R.bindS, if_pos rfl, hf]
theorem e_ifS0 (ht : t env m = .ok false m1) (hg : g env m1 = s) : fIfS t f g env m = s := by
  unfold fIfS
  rw [ht, R.bindS, if_neg Bool.false_ne_true, hg]
theorem e_skip (ht : t env m = .ok false m1) : fIfS t f fNext env m = .nx env m1 := e_ifS0 ht rfl
/-! sources, comprehensions, loops -/
theorem e_itr {sr : Src} (ha : fa env m = .ok a m1) (h : itrOf m1 a = .ok sr m1) : fItr fa env m = .ok sr m1 := by
  unfold fItr
  rw [ha, R.bind, h]
theorem e_itrL (ha : fa env m = .ok (.lst ds) m1) : fItr fa env m = .ok (.its ds) m1 := e_itr ha rfl
theorem e_itrT (ha : fa env m = .ok (.tup ds) m1) : fItr fa env m = .ok (.its ds) m1 := e_itr ha rfl
theorem rgB_nat {n : Nat} (h : n ≤ 5000) : rgB (n : Int) = true := by
  rw [rgB, Bool.and_eq_true, decide_eq_true_iff, decide_eq_true_iff]
  omega
theorem rng_nat {n : Nat} (h : n ≤ 5000) : rng1 m [.int (n : Int)] = .ok (.its (rangeD 0 n)) m := by
  show (if _ then _ else _) = _
  rw [if_pos (rgB_nat h), Int.toNat_natCast]
theorem e_rng {n : Nat} (hk : n ≤ 5000) (ha : fa env m = .ok (.int (n : Int)) m1) : fRng1 (aCons fa aNil) env m = .ok (.its (rangeD 0 n)) m1 := by
  unfold fRng1
  rw [e_cons ha e_nil, R.bind, rng_nat hk]
theorem e_enm {sr : Src} (ha : fa env m = .ok a m1) (h : itrOf m1 a = .ok sr m1) : fEnm (aCons fa aNil) env m = .ok (.enm sr) m1 := by
  unfold fEnm
  rw [e_cons ha e_nil, R.bind]
  unfold enmOf
  dsimp only
  rw [h, R.bind]
theorem e_lc {si : FI} {vs : List Nat} {tg : TgD} (hi : si env m = .ok (.its ds) m1) (hl : lcGo (.its ds) tg t fe (wipeE env vs) (ds.length + 1) 0 [] m1 = .ok es m2) : fLc si vs tg t fe env m = .ok (.lst es) m2 := by
  unfold fLc lcAll
  rw [hi, R.bind, fuel_its, hl, R.bind]
theorem e_lcC {si : FI} {vs : List Nat} {tg : TgD} (hi : si env m = .ok (.its ds) m1) (hl : lcGo (.its ds) tg t fe (wipeE env vs) (ds.length + 1) 0 [] m1 = .ok es m2) : fLcC si vs tg t fe env m = .ok (.cel m2.length) (m2 ++ [some (.lst es)]) := by
  unfold fLcC lcAll
  rw [hi, R.bind, fuel_its, hl, R.bind]
theorem e_for {si : FI} {tg : TgD} (hi : si env m = .ok (.its ds) m1) (hl : forGo (.its ds) tg f (ds.length + 1) 0 env m1 = s) : fFor si tg f env m = s := by
  unfold fFor
  rw [hi, R.bindS, fuel_its, hl]
end
end DL
namespace LW
open PySem PySem.Spec PyProof.Rows L2 DL
theorem lc_box {j n c : Nat} {base m : Mem} {its : List D} {tg : TgD} {fe : FE} {env0 : DL.Env} (P : D → Prop) (hz : its.length ≤ sizeLine)
    (step : ∀ d ∈ its, ∀ n' m', Bx j n' base m' → n' ≤ n + c * its.length → ∃ e1, tg d env0 m' = some e1 ∧ ∃ y m2, fe e1 m' = .ok y m2 ∧ P y ∧ Bx j (n' + c) base m2) (h : Bx j n base m) :
    ∃ out m', lcGo (.its its) tg fYes fe env0 (its.length + 1) 0 [] m = .ok out m' ∧ out.length = its.length ∧ (∀ y ∈ out, P y) ∧ Bx j (n + c * its.length) base m' := by
  obtain ⟨out, m', h1, h2, h3, h4⟩ := lc_inv (its := its) (tg := tg) (ft := fYes) (fe := fe) (env0 := env0) (fun i acc m1 => acc.length = i ∧ (∀ y ∈ acc, P y) ∧ Bx j (n + c * i) base m1) (fun i d acc m1 hd hI => by
    obtain ⟨ha, hp, hb⟩ := hI
    have hlt := (List.getElem?_eq_some_iff.mp hd).1
    obtain ⟨e1, he, y, m2, hy, py, hb2⟩ := step d (List.mem_of_getElem? hd) _ m1 hb (by
      have := Nat.mul_le_mul_left c (Nat.le_of_lt hlt)
      omega)
    refine ⟨e1, he, .inr ⟨m1, y, m2, rfl, hy, by omega, by simp [ha], ?_, ?_⟩⟩
    · intro z hz
      rcases List.mem_append.mp hz with hz | hz
      · exact hp z hz
      · rw [List.mem_singleton.mp hz]
        exact py
    · rw [Nat.mul_succ, ← Nat.add_assoc]
      exact hb2) (its.length + 1) 0 [] m (by omega) (by omega) ⟨rfl, by simp, by simpa using h⟩
  exact ⟨out, m', h1, h2, h3, h4⟩
theorem rangeD_mem {n : Nat} {d : D} (h : d ∈ rangeD 0 n) : ∃ k, k < n ∧ d = eI k := by
  obtain ⟨k, hk, rfl⟩ := List.mem_map.mp h
  exact ⟨k, List.mem_range.mp hk, by rw [Int.zero_add]; rfl⟩
def sg (b : Bool) : D := .str ⟨#[bitC b]⟩
theorem ix_01 {m : Mem} {r : Nat} (h : r < 2) : ∃ b, opIx m (.str "01") (eI r) = .ok (sg b) m := by
  have e : (("01" : Str).length) ≤ sizeLine := Nat.le_trans (by decide : _ ≤ 1000) (by rw [sizeLine_eq]; omega)
  match r, h with
  | 0, _ => exact ⟨false, by simp only [opIx, eI, e, if_true]; rfl⟩
  | 1, _ => exact ⟨true, by simp only [opIx, eI, e, if_true]; rfl⟩
theorem joinL_nil : ∀ l : List (List Nat), TL.joinL [] l = l.flatten
  | [] => rfl
  | [p] => by simp [TL.joinL]
  | p :: q :: r => by
    rw [TL.joinL, joinL_nil (q :: r)]
    simp
def sgS (b : Bool) : Str := ⟨#[bitC b]⟩
theorem join_sg (bs : List Bool) : Txt.join "" (bs.map sgS) = bitS bs := by
  show Builtin.Str.glued "" (bs.map sgS) = _
  rw [PySem.StrLaws.glued_eq_join]
  apply TL.ext_tl
  rw [TL.tl_join, show TL.tl "" = [] from by decide, joinL_nil, List.map_map]
  show _ = bs.map bitC
  induction bs with
  | nil => rfl
  | cons b bs ih =>
    rw [List.map_cons, List.flatten_cons, ih]
    rfl
theorem sgs_of : ∀ (ds : List D), (∀ d ∈ ds, ∃ b, d = sg b) → ∃ bs : List Bool, ds = bs.map sg
  | [], _ => ⟨[], rfl⟩
  | d :: ds, h => by
    obtain ⟨b, rfl⟩ := h d List.mem_cons_self
    obtain ⟨bs, rfl⟩ := sgs_of ds fun x hx => h x (List.mem_cons_of_mem _ hx)
    exact ⟨b :: bs, rfl⟩
theorem seqOf_lst {m : Mem} {xs : List D} : seqOf m (.lst xs) = some xs := rfl
theorem sgS_sum : ∀ bs : List Bool, ((bs.map sgS).map (·.length)).sum = bs.length
  | [] => rfl
  | b :: bs => by
    rw [List.map_cons, List.map_cons, List.sum_cons, sgS_sum bs, List.length_cons]
    show 1 + _ = _
    omega
theorem opJoin_sg {m : Mem} {bs : List Bool} (h : bs.length ≤ 10000) : opJoin m (.str "") (.lst (bs.map sg)) = .ok (.str (bitS bs)) m := by
  have e : bs.map sg = (bs.map sgS).map D.str := by rw [List.map_map]; rfl
  have e2 : (seqOf m (.lst (bs.map sg))).bind strsD = some (bs.map sgS) := by
    rw [seqOf_lst, Option.bind_some, e, strsD_of]
  unfold opJoin
  rw [e2]
  dsimp only
  rw [if_pos, join_sg]
  rw [sgS_sum, show (("" : Str).length) = 0 from by decide]
  omega
theorem p_word {j n k : Nat} {base m : Mem} (hb : Ok base) (hj : j < base.length) (h : Bx j n base m) (hn : n + k < 1000000) (hk : k ≤ 1000) : ∃ bs m', bs.length = k ∧ m__law_word m [.cel j, eI k] = .ok (.str (bitS bs)) m' ∧ Bx j (n + k) base m' := by
  obtain ⟨out, m', h1, h2, h3, h4⟩ := lc_box (c := 1) (its := rangeD 0 k) (tg := tName 2) (fe := fBin opIx (fC (.str "01")) (fApp m__law_take (aCons (fVar 0) (aCons (fC (.int 2)) aNil)))) (env0 := [some (.cel j), some (eI k), none]) (fun d => ∃ b, d = sg b) (by rw [rangeD_len, sizeLine_eq]; omega) (fun d hd n' m' hb' hn' => by
    rw [rangeD_len] at hn'
    obtain ⟨r, m2, hr, ht, hb2⟩ := p_take (many := 2) hb hj hb' (by omega) (by omega) (by omega)
    obtain ⟨b, eb⟩ := ix_01 (m := m2) hr
    have ht : m__law_take m' [.cel j, .int 2] = .ok (eI r) m2 := ht
    exact ⟨_, rfl, sg b, m2, by simp [fRet, fAnd, fOr, f1, fNot, fNotT, fNotV, fTr, fB, asB, asTr, truD, tfAnd, tfOr, tfNot, isiD, subTy, tyD, startE, fVar, R.bind, R.bindS, S.bind, fBin, fCall, op1, op2, aCons, aNil, fC, fApp, fAppK, fSeq, fSet, fIfS, fIf, fNext, fExpr, fTup, fLst, fPar, fAsg, tTupG, tConsG, tNilG, tName, fItr, itrOf, srcOf, fLc, lcAll, wipeE, fEnm, enmOf, fRng1, rng1, fYes, fuel_its, opSub, opLe, opLt, opGt, opGe, opIs, isD, opEq, opNe, eqD, fChain, cmpI, fNeg, Option.isSome_some, srcOf_tup, srcOf_lst, its_some, enm_some, ht, eb], ⟨b, rfl⟩, hb2⟩) h
  obtain ⟨bs, rfl⟩ := sgs_of out h3
  rw [rangeD_len, List.length_map] at h2
  rw [rangeD_len, Nat.one_mul] at h4
  rw [rangeD_len] at h1
  refine ⟨bs, m', h2, ?_, h4⟩
  refine fn_rt rfl (d := .str (bitS bs)) (m' := m') ?_ (leave_len (by rw [h.len, h4.len]) (h4.ok hb) rfl)
  unfold b__law_word
  refine e_ret (e_m1 e_c rfl (e_lc (e_rng (n := k) (by omega) (e_var rfl)) ?_) (opJoin_sg (show bs.length ≤ 10000 by omega)))
  rw [rangeD_len]
  exact h1
end LW
namespace LW
open PySem PySem.Spec PyProof.Rows L2 DL
/-! the net that is drawn -/
theorem e_take {j n many : Nat} {base m : Mem} {env : DL.Env} {fb fe : FE} (hb : Ok base) (hj : j < base.length) (h : Bx j n base m) (hn : n < 10000000) (h0 : 0 < many) (h1 : many < 1000000)
    (he : fb env m = .ok (.cel j) m) (hm : fe env m = .ok (eI many) m) : ∃ r m', r < many ∧ fApp m__law_take (aCons fb (aCons fe aNil)) env m = .ok (eI r) m' ∧ Bx j (n + 1) base m' := by
  obtain ⟨r, m', hr, ht, hb'⟩ := p_take hb hj h hn h0 h1
  exact ⟨r, m', hr, e_app (e_cons he (e_cons hm e_nil)) ht, hb'⟩
theorem lt_int {m : Mem} {a b : Nat} : opLt m (eI a) (eI b) = .ok (.bl (decide (a < b))) m := by
  simp [opLt, eI]
theorem gt_int {m : Mem} {a b : Nat} : opGt m (eI a) (eI b) = .ok (.bl (decide (b < a))) m := by
  simp [opGt, eI]
theorem eq_str {m : Mem} {a b : Str} : opEq m (.str a) (.str b) = .ok (.bl (decide (a = b))) m := rfl
theorem two_ix {m : Mem} {r : Nat} (h : r < 2) : ∃ k, k ≤ 1 ∧ opIx m (.lst [.str "and", .str "or"]) (eI r) = .ok (.str (kS k)) m := by
  match r, h with
  | 0, _ => exact ⟨0, by omega, ix_lst (at0 _ _)⟩
  | 1, _ => exact ⟨1, by omega, ix_lst (at1 _ _ _)⟩
theorem six_ix {m : Mem} {r : Nat} (h : r < 6) : ∃ k, k ≤ 3 ∧ opIx m (.lst [.int 2, .int 1, .int 2, .int 0, .int 2, .int 3]) (eI r) = .ok (eI k) m := by
  match r, h with
  | 0, _ => exact ⟨2, by omega, ix_lst (atI_nat _ 0)⟩
  | 1, _ => exact ⟨1, by omega, ix_lst (atI_nat _ 1)⟩
  | 2, _ => exact ⟨2, by omega, ix_lst (atI_nat _ 2)⟩
  | 3, _ => exact ⟨0, by omega, ix_lst (atI_nat _ 3)⟩
  | 4, _ => exact ⟨2, by omega, ix_lst (atI_nat _ 4)⟩
  | 5, _ => exact ⟨3, by omega, ix_lst (atI_nat _ 5)⟩
theorem lz {k : Nat} (h : k ≤ 1000) : k ≤ sizeLine := by rw [sizeLine_eq]; omega
section
variable {j n many nots : Nat} {base m : Mem} {env : DL.Env}
def xKind : FE := fIf (tfAnd (fB (fBin opGt (fVar 9) (fC (.int 0)))) (fB (fBin opLt (fApp m__law_take (aCons (fVar 0) (aCons (fC (.int 12)) aNil))) (fVar 5)))) (fC (.str "not")) (fBin opIx (fLst (aCons (fC (.str "and")) (aCons (fC (.str "or")) aNil))) (fApp m__law_take (aCons (fVar 0) (aCons (fC (.int 2)) aNil))))
theorem d_kind (hb : Ok base) (hj : j < base.length) (h : Bx j n base m) (hn : n < 1000000) (e0 : env[0]? = some (some (.cel j))) (e9 : env[9]? = some (some (eI many))) (e5 : env[5]? = some (some (eI nots))) :
    ∃ k m', k ≤ 2 ∧ (k = 2 → 0 < many) ∧ xKind env m = .ok (.str (kS k)) m' ∧ Bx j (n + 2) base m' := by
  have low : ∀ {n' : Nat} {m2 : Mem}, Bx j n' base m2 → n' ≤ n + 1 → ∃ k m', k ≤ 1 ∧ fBin opIx (fLst (aCons (fC (.str "and")) (aCons (fC (.str "or")) aNil))) (fApp m__law_take (aCons (fVar 0) (aCons (fC (.int 2)) aNil))) env m2 = .ok (.str (kS k)) m' ∧ Bx j (n + 2) base m' := by
    intro n' m2 h2 hn'
    obtain ⟨r, m', hr, ht, hb'⟩ := e_take (many := 2) (env := env) (fb := fVar 0) (fe := fC (.int 2)) hb hj h2 (by omega) (by omega) (by omega) (e_var e0) e_c
    obtain ⟨k, hk, he⟩ := two_ix (m := m') hr
    exact ⟨k, m', hk, e_bin (e_lst (e_cons e_c (e_cons e_c e_nil)) (lz (by simp))) ht he, hb'.le (by omega)⟩
  have g9 : fB (fBin opGt (fVar 9) (fC (.int 0))) env m = .ok (decide (0 < many)) m := e_fB (e_bin (e_var e9) e_c (gt_int (b := 0)))
  by_cases hm : 0 < many
  · rw [decide_eq_true hm] at g9
    obtain ⟨r, m1, hr, ht, hb1⟩ := e_take (many := 12) (env := env) (fb := fVar 0) (fe := fC (.int 12)) hb hj h (by omega) (by omega) (by omega) (e_var e0) e_c
    have g5 : fB (fBin opLt (fApp m__law_take (aCons (fVar 0) (aCons (fC (.int 12)) aNil))) (fVar 5)) env m = .ok (decide (r < nots)) m1 := e_fB (e_bin ht (e_var e5) lt_int)
    by_cases hq : r < nots
    · rw [decide_eq_true hq] at g5
      exact ⟨2, m1, by omega, fun _ => hm, e_if1 (e_tand1 g9 g5) e_c, hb1.le (by omega)⟩
    · rw [decide_eq_false hq] at g5
      obtain ⟨k, m', hk, he, hb'⟩ := low hb1 (by omega)
      exact ⟨k, m', by omega, fun _ => hm, e_if0 (e_tand1 g9 g5) he, hb'⟩
  · rw [decide_eq_false hm] at g9
    obtain ⟨k, m', hk, he, hb'⟩ := low h (by omega)
    exact ⟨k, m', by omega, fun h => by omega, e_if0 (e_tand0 g9) he, hb'⟩
def xSize : FE := fIf (fB (fBin opEq (fVar 10) (fC (.str "not")))) (fC (.int 1)) (fIf (fB (fBin opGt (fVar 9) (fC (.int 0)))) (fBin opIx (fLst (aCons (fC (.int 2)) (aCons (fC (.int 1)) (aCons (fC (.int 2)) (aCons (fC (.int 0)) (aCons (fC (.int 2)) (aCons (fC (.int 3)) aNil))))))) (fApp m__law_take (aCons (fVar 0) (aCons (fC (.int 6)) aNil)))) (fC (.int 0)))
theorem d_size {k : Nat} (hb : Ok base) (hj : j < base.length) (h : Bx j n base m) (hn : n < 1000000) (hk : k ≤ 2) (hkm : k = 2 → 0 < many) (e0 : env[0]? = some (some (.cel j))) (e9 : env[9]? = some (some (eI many))) (e10 : env[10]? = some (some (.str (kS k)))) :
    ∃ s m', s ≤ 3 ∧ (k = 2 → s = 1) ∧ (many = 0 → s = 0) ∧ xSize env m = .ok (eI s) m' ∧ Bx j (n + 1) base m' := by
  have g10 : fB (fBin opEq (fVar 10) (fC (.str "not"))) env m = .ok (decide (kS k = "not")) m := e_fB (e_bin (e_var e10) e_c eq_str)
  have g9 : fB (fBin opGt (fVar 9) (fC (.int 0))) env m = .ok (decide (0 < many)) m := e_fB (e_bin (e_var e9) e_c (gt_int (b := 0)))
  by_cases h2 : k = 2
  · rw [decide_eq_true ((kS_not hk).mpr h2)] at g10
    exact ⟨1, m, by omega, fun _ => rfl, fun h0 => by have := hkm h2; omega, e_if1 g10 e_c, h.le (by omega)⟩
  · rw [decide_eq_false (fun x => h2 ((kS_not hk).mp x))] at g10
    by_cases hm : 0 < many
    · rw [decide_eq_true hm] at g9
      obtain ⟨r, m1, hr, ht, hb1⟩ := e_take (many := 6) (env := env) (fb := fVar 0) (fe := fC (.int 6)) hb hj h (by omega) (by omega) (by omega) (e_var e0) e_c
      obtain ⟨s, hs, he⟩ := six_ix (m := m1) hr
      exact ⟨s, m1, hs, fun x => absurd x h2, fun x => by omega, e_if0 g10 (e_if1 g9 (e_bin (e_lst (e_cons e_c (e_cons e_c (e_cons e_c (e_cons e_c (e_cons e_c (e_cons e_c e_nil)))))) (lz (by simp))) ht he)), hb1⟩
    · rw [decide_eq_false hm] at g9
      exact ⟨0, m, by omega, fun x => absurd x h2, fun _ => rfl, e_if0 g10 (e_if0 g9 e_c), h.le (by omega)⟩
theorem ws_of {b : Nat} : ∀ (ds : List D), (∀ d ∈ ds, ∃ w, w < b ∧ d = eI w) → ∃ ws : List Nat, ds = ws.map eI ∧ ∀ w ∈ ws, w < b
  | [], _ => ⟨[], rfl, by simp⟩
  | d :: ds, h => by
    obtain ⟨w, hw, rfl⟩ := h d List.mem_cons_self
    obtain ⟨ws, rfl, h2⟩ := ws_of ds fun x hx => h x (List.mem_cons_of_mem _ hx)
    exact ⟨w :: ws, rfl, fun x hx => by
      rcases List.mem_cons.mp hx with rfl | hx
      · exact hw
      · exact h2 x hx⟩
end
end LW
namespace LW
open PySem PySem.Spec PyProof.Rows L2 DL
theorem sub_nat {m : Mem} {b r : Nat} (h : r < b) : opSub m (.int ((b : Int) - 1)) (eI r) = .ok (eI (b - 1 - r)) m := by
  simp [opSub, eI]
  omega
theorem lc_pick {j n k i v b mn : Nat} {base m : Mem} {env0 : DL.Env} {fm : FE} (hb : Ok base) (hj : j < base.length) (h : Bx j n base m) (hn : n + k < 1000000) (hk : k ≤ 1000) (hmn : k ≠ 0 → 0 < mn) (hmb : mn ≤ b) (hbb : b < 1000000)
    (e0 : ∀ d, (env0.set i (some d))[0]? = some (some (.cel j))) (ev : ∀ d, (env0.set i (some d))[v]? = some (some (eI b))) (em : ∀ d m', fm (env0.set i (some d)) m' = .ok (eI mn) m') :
    ∃ (ws : List Nat) (m' : Mem), ws.length = k ∧ (∀ w ∈ ws, w < b) ∧ lcGo (.its (rangeD 0 k)) (tName i) fYes (fBin opSub (fBin opSub (fVar v) (fC (.int 1))) (fApp m__law_take (aCons (fVar 0) (aCons fm aNil)))) env0 ((rangeD 0 k).length + 1) 0 [] m = .ok (ws.map eI) m' ∧ Bx j (n + k) base m' := by
  obtain ⟨out, m', h1, h2, h3, h4⟩ := lc_box (c := 1) (its := rangeD 0 k) (tg := tName i) (fe := fBin opSub (fBin opSub (fVar v) (fC (.int 1))) (fApp m__law_take (aCons (fVar 0) (aCons fm aNil)))) (env0 := env0) (fun d => ∃ w, w < b ∧ d = eI w) (by rw [rangeD_len]; exact lz hk) (fun d hd n' m1 hb' hn' => by
    rw [rangeD_len] at hn'
    obtain ⟨q, hq, rfl⟩ := rangeD_mem hd
    have h0 := hmn (by omega)
    obtain ⟨r, m2, hr, ht, hb2⟩ := e_take (many := mn) (env := env0.set i (some (eI q))) (fb := fVar 0) (fe := fm) hb hj hb' (by omega) h0 (by omega) (e_var (e0 _)) (em _ _)
    exact ⟨_, rfl, eI (b - 1 - r), m2, e_bin (e_bin (e_var (ev _)) e_c rfl) ht (sub_nat (by omega)), ⟨_, by omega, rfl⟩, hb2⟩) h
  obtain ⟨ws, rfl, hw⟩ := ws_of out h3
  rw [rangeD_len, List.length_map] at h2
  rw [rangeD_len, Nat.one_mul] at h4
  exact ⟨ws, m', h2, hw, h1, h4⟩
theorem min_nat {m : Mem} {a : Nat} : opMin2 m (eI a) (.int 5) = .ok (eI (min a 5)) m := by
  simp only [opMin2, eI]
  congr 2
  by_cases h : (5 : Int) < a
  · rw [if_pos h]
    omega
  · rw [if_neg h]
    omega
theorem bx_push {j n : Nat} {base m : Mem} {c : Option C} (hj : j < base.length) (h : Bx j n base m) : Bx j n (base ++ [c]) (m ++ [c]) := by
  obtain ⟨a, b, c', d, rfl, q⟩ := h
  refine ⟨a, b, c', d, ?_, q⟩
  rw [List.set_append_left _ _ hj]
theorem bx_last {j n : Nat} {base m : Mem} {c : C} (hj : j < base.length) (h : Bx j n (base ++ [some c]) m) : m[base.length]? = some (some c) := by
  obtain ⟨a, b, c', d, rfl, q⟩ := h
  rw [List.set_append_left _ _ hj, List.getElem?_append_right (by rw [List.length_set]; omega), List.length_set, Nat.sub_self]
  rfl
theorem bx_put {j n : Nat} {base m : Mem} {c e : Option C} (hj : j < base.length) (h : Bx j n (base ++ [c]) m) : Bx j n (base ++ [e]) (m.set base.length e) := by
  obtain ⟨a, b, c', d, rfl, q⟩ := h
  refine ⟨a, b, c', d, ?_, q⟩
  rw [List.set_append_left _ _ hj, List.set_append_left _ _ hj, List.set_append_right _ _ (by rw [List.length_set]; omega), List.length_set, Nat.sub_self]
  rfl
theorem bx_pop {j n : Nat} {base m : Mem} {c : Option C} (hj : j < base.length) (h : Bx j n (base ++ [c]) m) : Bx j n base (m.take base.length) := by
  obtain ⟨a, b, c', d, rfl, q⟩ := h
  refine ⟨a, b, c', d, ?_, q⟩
  rw [List.set_append_left _ _ hj, List.take_append_of_le_length (by rw [List.length_set]; omega), List.take_of_length_le (by rw [List.length_set]; omega)]
theorem cel_last {j n : Nat} {base m : Mem} {xs : List D} (hj : j < base.length) (h : Bx j n (base ++ [some (.lst xs)]) m) : celL m (.cel base.length) = some (base.length, xs) := by
  unfold celL
  dsimp only
  rw [bx_last hj h]
end LW
namespace LW
open PySem PySem.Spec PyProof.Rows L2 DL
def xGate : FS := fSeq (fSet 9 (fBin opAdd (fBin opAdd (fVar 1) (fVar 2)) (fVar 8))) (fSeq (fSet 10 (fIf (tfAnd (fB (fBin opGt (fVar 9) (fC (.int 0)))) (fB (fBin opLt (fApp m__law_take (aCons (fVar 0) (aCons (fC (.int 12)) aNil))) (fVar 5)))) (fC (.str "not")) (fBin opIx (fLst (aCons (fC (.str "and")) (aCons (fC (.str "or")) aNil))) (fApp m__law_take (aCons (fVar 0) (aCons (fC (.int 2)) aNil)))))) (fSeq (fSet 11 (fIf (fB (fBin opEq (fVar 10) (fC (.str "not")))) (fC (.int 1)) (fIf (fB (fBin opGt (fVar 9) (fC (.int 0)))) (fBin opIx (fLst (aCons (fC (.int 2)) (aCons (fC (.int 1)) (aCons (fC (.int 2)) (aCons (fC (.int 0)) (aCons (fC (.int 2)) (aCons (fC (.int 3)) aNil))))))) (fApp m__law_take (aCons (fVar 0) (aCons (fC (.int 6)) aNil)))) (fC (.int 0))))) (fExpr (fML opAppend (fVar 7) (aCons (fTup (aCons (fVar 10) (aCons (fCall (op1 opTuple) (aCons (fLc (fRng1 (aCons (fVar 11) aNil)) [12] (tName 12) fYes (fBin opSub (fBin opSub (fVar 9) (fC (.int 1))) (fApp m__law_take (aCons (fVar 0) (aCons (fCall (op2 opMin2) (aCons (fVar 9) (aCons (fC (.int 5)) aNil))) aNil))))) aNil)) aNil))) aNil)))))
theorem add_nat {m : Mem} {a b : Nat} : opAdd m (eI a) (eI b) = .ok (eI (a + b)) m := by
  simp [opAdd, eI]
theorem tup_lst {m : Mem} {xs : List D} : opTuple m (.lst xs) = .ok (.tup xs) m := rfl
theorem d_gate {j n k ins lat nots : Nat} {base m : Mem} {rows : List D} {zg zo zf : D} {z9 z10 z11 z12 z13 z14 : Option D} (hb : Ok base) (hr : lowL (base.length + 1) rows = true) (hl : rows.length ≤ 1000) (hj : j < base.length) (h : Bx j n (base ++ [some (.lst rows)]) m) (hn : n < 900000) (hk : ins + lat + k < 1000) :
    ∃ (g : G) (m' : Mem) (w9 w10 w11 w12 : Option D), GOk g (ins + lat + k) ∧ xGate [some (.cel j), some (eI ins), some (eI lat), some zg, some zo, some (eI nots), some zf, some (.cel base.length), some (eI k), z9, z10, z11, z12, z13, z14] m = .nx [some (.cel j), some (eI ins), some (eI lat), some zg, some zo, some (eI nots), some zf, some (.cel base.length), some (eI k), w9, w10, w11, w12, z13, z14] m' ∧ Bx j (n + 6) (base ++ [some (.lst (rows ++ [eG g]))]) m' := by
  have hB : Ok (base ++ [some (.lst rows)]) := ok_app hb hr
  have hjB : j < (base ++ [some (C.lst rows)]).length := by rw [List.length_append]; omega
  obtain ⟨kd, m1, hk2, hkm, hx1, hb1⟩ := d_kind (many := ins + lat + k) (nots := nots) (env := [some (.cel j), some (eI ins), some (eI lat), some zg, some zo, some (eI nots), some zf, some (.cel base.length), some (eI k), some (eI (ins + lat + k)), z10, z11, z12, z13, z14]) hB hjB h (by omega) rfl rfl rfl
  obtain ⟨s, m2, hs, hs2, hs0, hx2, hb2⟩ := d_size (many := ins + lat + k) (env := [some (.cel j), some (eI ins), some (eI lat), some zg, some zo, some (eI nots), some zf, some (.cel base.length), some (eI k), some (eI (ins + lat + k)), some (.str (kS kd)), z11, z12, z13, z14]) hB hjB hb1 (by omega) hk2 hkm rfl rfl rfl
  obtain ⟨ws, m3, hw1, hw2, hx3, hb3⟩ := lc_pick (k := s) (i := 12) (v := 9) (b := ins + lat + k) (mn := min (ins + lat + k) 5) (env0 := [some (.cel j), some (eI ins), some (eI lat), some zg, some zo, some (eI nots), some zf, some (.cel base.length), some (eI k), some (eI (ins + lat + k)), some (.str (kS kd)), some (eI s), none, z13, z14]) (fm := fCall (op2 opMin2) (aCons (fVar 9) (aCons (fC (.int 5)) aNil))) hB hjB hb2 (by omega) (by omega)
    (fun hne => by
      by_cases h0 : ins + lat + k = 0
      · exact absurd (hs0 h0) hne
      · omega) (by omega) (by omega) (fun d => rfl) (fun d => rfl) (fun d m' => e_call2 (e_var rfl) e_c min_nat)
  have hlow : (D.tup [.str (kS kd), .tup (ws.map eI)]).low (base.length + 1) = true := low_eG (g := ⟨kd, ws⟩)
  refine ⟨⟨kd, ws⟩, m3.set base.length (some (.lst (rows ++ [eG ⟨kd, ws⟩]))), some (eI (ins + lat + k)), some (.str (kS kd)), some (eI s), z12, ⟨hk2, hw2, by show ws.length ≤ 3; omega, fun hh => by show ws.length = 1; rw [hw1, hs2 hh]⟩, ?_, bx_put hj (hb3.le (by omega))⟩
  unfold xGate
  refine e_seq (e_set (e_bin (e_bin (e_var rfl) (e_var rfl) add_nat) (e_var rfl) add_nat)) ?_
  refine e_seq (e_set hx1) ?_
  refine e_seq (e_set hx2) ?_
  refine e_expr (a := .non) (e_mL (e_var rfl) (cel_last hj hb2) (e_cons (e_tup (e_cons (e_var rfl) (e_cons (e_call1 (e_lc (e_rng (n := s) (by omega) (e_var rfl)) hx3) tup_lst) e_nil)) (lz (by simp))) e_nil) ?_)
  unfold opAppend
  rw [cel_last hj hb3]
  dsimp only
  rw [if_pos (Nat.lt_of_le_of_lt hl (by rw [sizeLine_eq]; omega))]
  rfl
end LW
namespace LW
open PySem PySem.Spec PyProof.Rows L2 DL
theorem b_drawn_eq : b__law_drawn = fSeq (fPar 6 7 (fApp m__law_word (aCons (fVar 0) (aCons (fVar 2) aNil))) (fLstC aNil)) (fSeq (fFor (fRng1 (aCons (fVar 3) aNil)) (tName 8) xGate) (fSeq (fSet 13 (fBin opAdd (fBin opAdd (fVar 1) (fVar 2)) (fVar 3))) (fSeq (fSet 14 (fCall (op1 opTuple) (aCons (fLc (fRng1 (aCons (fVar 2) aNil)) [8] (tName 8) fYes (fBin opSub (fBin opSub (fVar 13) (fC (.int 1))) (fApp m__law_take (aCons (fVar 0) (aCons (fVar 13) aNil))))) aNil))) (fRet (fLst (aCons (fVar 1) (aCons (fVar 6) (aCons (fCall (op1 opTuple) (aCons (fVar 7) aNil)) (aCons (fVar 14) (aCons (fCall (op1 opTuple) (aCons (fLc (fRng1 (aCons (fIf (fB (fBin opGt (fVar 13) (fC (.int 0)))) (fVar 4) (fC (.int 0))) aNil)) [8] (tName 8) fYes (fBin opSub (fBin opSub (fVar 13) (fC (.int 1))) (fApp m__law_take (aCons (fVar 0) (aCons (fVar 13) aNil))))) aNil)) aNil)))))))))) := rfl
theorem low_gsL {k : Nat} {gs : List G} : lowL k (gs.map eG) = true := lowL_map fun _ _ => low_eG
theorem p_drawn {j n ins lat gates outs nots : Nat} {base m : Mem} (hb : Ok base) (hj : j < base.length) (h : Bx j n base m) (hn : n < 500000) (hi : ins ≤ 24) (hla : lat ≤ 24) (hg : gates ≤ 60) (ho : outs ≤ 24) :
    ∃ (N : Nt) (m' : Mem), NOk N ∧ N.ins = ins ∧ m__law_drawn m [.cel j, eI ins, eI lat, eI gates, eI outs, eI nots] = .ok (eNet N) m' ∧ Bx j (n + 1000) base m' := by
  obtain ⟨bs, m1, hbs, hw, hb1⟩ := p_word hb hj h (k := lat) (by omega) (by omega)
  have hb2 : Bx j (n + lat) (base ++ [some (.lst [])]) (m1 ++ [some (.lst [])]) := bx_push hj hb1
  have hjB : ∀ c : Option C, j < (base ++ [c]).length := fun c => by rw [List.length_append]; omega
  obtain ⟨env', m3, hf, gs, w8, w9, w10, w11, w12, hgl, hgo, rfl, hb3⟩ := for_inv (its := rangeD 0 gates) (tg := tName 8) (fb := xGate)
    (fun i env m => ∃ (gs : List G) (w8 w9 w10 w11 w12 : Option D), gs.length = i ∧ (∀ i g, gs[i]? = some g → GOk g (ins + lat + i)) ∧ env = [some (.cel j), some (eI ins), some (eI lat), some (eI gates), some (eI outs), some (eI nots), some (.str (bitS bs)), some (.cel base.length), w8, w9, w10, w11, w12, none, none] ∧ Bx j (n + lat + 6 * i) (base ++ [some (.lst (gs.map eG))]) m)
    (fun i d env m hd hI => by
      obtain ⟨gs, w8, w9, w10, w11, w12, hgl, hgo, rfl, hbx⟩ := hI
      have hlt := (List.getElem?_eq_some_iff.mp hd).1
      rw [rangeD_len] at hlt
      rw [rangeD_get hlt, Int.zero_add] at hd
      cases hd
      obtain ⟨g, m2, v9, v10, v11, v12, hok, hx, hb4⟩ := d_gate (k := i) (ins := ins) (lat := lat) (nots := nots) (rows := gs.map eG) (zg := eI gates) (zo := eI outs) (zf := .str (bitS bs)) (z9 := w9) (z10 := w10) (z11 := w11) (z12 := w12) (z13 := none) (z14 := none) hb low_gsL (by rw [List.length_map]; omega) hj hbx (by omega) (by omega)
      refine ⟨_, rfl, _, m2, .inl hx, gs ++ [g], _, v9, v10, v11, v12, by simp [hgl], ?_, rfl, ?_⟩
      · intro i' g' hg'
        by_cases hq : i' < gs.length
        · rw [List.getElem?_append_left hq] at hg'
          exact hgo i' g' hg'
        · rw [List.getElem?_append_right (by omega)] at hg'
          have := (List.getElem?_eq_some_iff.mp hg').1
          rw [List.length_singleton] at this
          have e : i' = i := by omega
          subst e
          rw [hgl, Nat.sub_self] at hg'
          cases hg'
          exact hok
      · rw [List.map_append]
        exact hb4.le (by omega)) ((rangeD 0 gates).length + 1) 0 [some (.cel j), some (eI ins), some (eI lat), some (eI gates), some (eI outs), some (eI nots), some (.str (bitS bs)), some (.cel base.length), none, none, none, none, none, none, none] (m1 ++ [some (.lst [])]) (by omega) (by omega) ⟨[], none, none, none, none, none, rfl, by simp, rfl, hb2⟩
  rw [rangeD_len] at hgl hb3
  have hB : Ok (base ++ [some (.lst (gs.map eG))]) := ok_app hb low_gsL
  obtain ⟨nx, m4, hn1, hn2, hn3, hb4⟩ := lc_pick (k := lat) (i := 8) (v := 13) (b := ins + lat + gates) (mn := ins + lat + gates) (env0 := [some (.cel j), some (eI ins), some (eI lat), some (eI gates), some (eI outs), some (eI nots), some (.str (bitS bs)), some (.cel base.length), none, w9, w10, w11, w12, some (eI (ins + lat + gates)), none]) (fm := fVar 13) hB (hjB _) hb3 (by omega) (by omega) (by omega) (by omega) (by omega) (fun d => rfl) (fun d => rfl) (fun d m' => e_var rfl)
  have hoz : ∃ ko, ko ≤ outs ∧ (ko ≠ 0 → 0 < ins + lat + gates) ∧ fIf (fB (fBin opGt (fVar 13) (fC (.int 0)))) (fVar 4) (fC (.int 0)) [some (.cel j), some (eI ins), some (eI lat), some (eI gates), some (eI outs), some (eI nots), some (.str (bitS bs)), some (.cel base.length), w8, w9, w10, w11, w12, some (eI (ins + lat + gates)), some (eW nx)] m4 = .ok (eI ko) m4 := by
    have g := e_fB (e_bin (m := m4) (env := [some (.cel j), some (eI ins), some (eI lat), some (eI gates), some (eI outs), some (eI nots), some (.str (bitS bs)), some (.cel base.length), w8, w9, w10, w11, w12, some (eI (ins + lat + gates)), some (eW nx)]) (fa := fVar 13) (fb := fC (.int 0)) (e_var rfl) e_c (gt_int (b := 0)))
    by_cases h0 : 0 < ins + lat + gates
    · rw [decide_eq_true h0] at g
      exact ⟨outs, by omega, fun _ => h0, e_if1 g (e_var rfl)⟩
    · rw [decide_eq_false h0] at g
      exact ⟨0, by omega, fun x => absurd rfl x, e_if0 g e_c⟩
  obtain ⟨ko, hk1, hk2, hk3⟩ := hoz
  obtain ⟨ou, m5, ho1, ho2, ho3, hb5⟩ := lc_pick (k := ko) (i := 8) (v := 13) (b := ins + lat + gates) (mn := ins + lat + gates) (env0 := [some (.cel j), some (eI ins), some (eI lat), some (eI gates), some (eI outs), some (eI nots), some (.str (bitS bs)), some (.cel base.length), none, w9, w10, w11, w12, some (eI (ins + lat + gates)), some (eW nx)]) (fm := fVar 13) hB (hjB _) hb4 (by omega) (by omega) hk2 (by omega) (by omega) (fun d => rfl) (fun d => rfl) (fun d m' => e_var rfl)
  have hpop := bx_pop hj hb5
  refine ⟨⟨ins, bs, gs, nx, ou⟩, m5.take base.length, ⟨hi, by show bs.length ≤ 24; omega, by show gs.length ≤ 60; omega, ?_, by show nx.length = bs.length; omega, ?_, by show ou.length ≤ 24; omega, ?_⟩, rfl, ?_, hpop.le (by omega)⟩
  · intro i g hg
    show GOk g (ins + bs.length + i)
    rw [hbs]
    exact hgo i g hg
  · show ∀ w ∈ nx, w < ins + bs.length + gs.length
    rw [hbs, hgl]
    exact hn2
  · show ∀ w ∈ ou, w < ins + bs.length + gs.length
    rw [hbs, hgl]
    exact ho2
  refine fn_rt rfl (m' := m5) (d := eNet ⟨ins, bs, gs, nx, ou⟩) ?_ ?_
  · rw [b_drawn_eq]
    refine e_seq (e_par (e_app (e_cons (e_var rfl) (e_cons (e_var rfl) e_nil)) hw) (e_lstC e_nil (lz (by simp)))) ?_
    rw [hb1.len]
    refine e_seq (e_for (e_rng (n := gates) (by omega) (e_var rfl)) hf) ?_
    refine e_seq (e_set (e_bin (e_bin (e_var rfl) (e_var rfl) add_nat) (e_var rfl) add_nat)) ?_
    refine e_seq (e_set (e_call1 (e_lc (e_rng (n := lat) (by omega) (e_var rfl)) hn3) tup_lst)) ?_
    have tc : opTuple m4 (.cel base.length) = .ok (.tup (gs.map eG)) m4 := by
      simp only [opTuple, rlstOf, lstOf, bx_last hj hb4]
    exact e_ret (e_lst (e_cons (e_var rfl) (e_cons (e_var rfl) (e_cons (e_call1 (e_var rfl) tc) (e_cons (e_var rfl) (e_cons (e_call1 (e_lc (e_rng (n := ko) (by omega) hk3) ho3) tup_lst) e_nil))))) (lz (by simp)))
  · have e1 : m.length = base.length := h.len
    rw [e1]
    refine leave_take rfl ?_ low_eNet
    have := hpop.ok hb
    rw [Ok, hpop.len] at this
    exact this
end LW
namespace LW
open PySem PySem.Spec PyProof.Rows L2 DL
theorem eq_nil {m : Mem} : opEq m (.lst []) (.lst []) = .ok (.bl true) m := by with_unfolding_all rfl
theorem isi_of {m : Mem} {d : D} {t : String} {Ts : List String} (h : tyD m d = some t) : isiD CS Ts m d = .ok (.bl (Ts.any fun T => subTy t T)) m := by
  cases d with
  | obj c fs ds => cases h
  | _ =>
    unfold isiD
    dsimp only
    rw [h]
theorem lc_none {its : List D} {tg : TgD} {ft : FT} {fe : FE} {env0 : DL.Env} {m : Mem} (hz : its.length ≤ sizeLine)
    (h : ∀ d ∈ its, ∃ e1, tg d env0 m = some e1 ∧ ft e1 m = .ok false m) : lcGo (.its its) tg ft fe env0 (its.length + 1) 0 [] m = .ok [] m := by
  have e := lc_filter (its := its) (tg := tg) (ft := ft) (fe := fe) (env0 := env0) (m := m) (fun _ => false) (fun d => d) hz fun d hd => by
    obtain ⟨e1, h1, h2⟩ := h d hd
    exact ⟨e1, h1, h2, fun x => by cases x⟩
  rw [show its.filter (fun _ => false) = [] from List.filter_eq_nil_iff.mpr (by simp)] at e
  exact e
theorem ne_bl {m : Mem} {p : Bool} : opNe m (.bl p) (.bl p) = .ok (.bl false) m := by
  simp [opNe, eqD]
theorem ne_int {m : Mem} {i : Int} : opNe m (.int i) (.int i) = .ok (.bl false) m := by
  simp [opNe, eqD]
theorem is_of {m : Mem} {a b : D} {k : Bool} (h : isD a b = some k) : opIs m a b = .ok (.bl k) m := by
  unfold opIs
  rw [h]
theorem same_seq {m : Mem} {d : D} {xs : List D} {t : String} {k : Nat} (hm : Ok m) (ht : tyD m d = some t) (htt : t = "list" ∨ t = "tuple") (hlen : opLen m d = .ok (.int xs.length) m) (hix : ∀ (i : Nat) (x : D), xs[i]? = some x → opIx m d (.int (i : Int)) = .ok x m)
    (hn : isD d .non = some false) (hr : ∀ x ∈ xs, m__law_same k m [x, x] = .ok (.bl true) m) (hl : xs.length ≤ 5000) : m__law_same (k + 1) m [d, d] = .ok (.bl true) m := by
  have i1 : isiD CS ["bool"] m d = .ok (.bl false) m := by rw [isi_of ht]; rcases htt with rfl | rfl <;> rfl
  have i2 : isiD CS ["int"] m d = .ok (.bl false) m := by rw [isi_of ht]; rcases htt with rfl | rfl <;> rfl
  have i3 : isiD CS ["str"] m d = .ok (.bl false) m := by rw [isi_of ht]; rcases htt with rfl | rfl <;> rfl
  have i4 : isiD CS ["list", "tuple"] m d = .ok (.bl true) m := by rw [isi_of ht]; rcases htt with rfl | rfl <;> rfl
  have i5 := isi_of (Ts := ["list"]) ht
  have i6 := isi_of (Ts := ["tuple"]) ht
  have hlc : lcGo (.its (rangeD 0 xs.length)) (tName 3) (tfNot (fTr (fApp (m__law_same k) (aCons (fBin opIx (fVar 0) (fVar 3)) (aCons (fBin opIx (fVar 1) (fVar 3)) aNil))))) (fVar 3) (wipeE [some d, some d, none, none] [3]) ((rangeD 0 xs.length).length + 1) 0 [] m = .ok [] m := by
    refine lc_none (by rw [rangeD_len, sizeLine_eq]; omega) fun z hz => ?_
    obtain ⟨i, hi, rfl⟩ := rangeD_mem hz
    refine ⟨_, rfl, ?_⟩
    have hx := hix i _ (List.getElem?_eq_getElem hi)
    exact e_tnot (e_trb (e_app (e_cons (e_bin (e_var rfl) (e_var rfl) hx) (e_cons (e_bin (e_var rfl) (e_var rfl) hx) e_nil)) (hr _ (List.getElem_mem hi))))
  refine fn_rt rfl (d := .bl true) ?_ (leave_same hm rfl)
  unfold b__law_same
  refine e_seq (e_skip (e_tor0 (e_fB (e_bin (e_var rfl) e_c (is_of hn))) (e_trb (e_f1 (e_var rfl) i1)))) ?_
  refine e_seq (e_skip (e_trb (e_f1 (e_var rfl) i2))) ?_
  refine e_seq (e_skip (e_trb (e_f1 (e_var rfl) i3))) ?_
  refine e_seq (e_skip (e_tor0 (e_fB (e_bin (e_f1 (e_var rfl) i5) (e_f1 (e_var rfl) i5) ne_bl)) (e_fB (e_bin (e_f1 (e_var rfl) i6) (e_f1 (e_var rfl) i6) ne_bl)))) ?_
  refine e_seq (e_skip (e_tor0 (e_tnot (e_trb (e_f1 (e_var rfl) i4))) (e_fB (e_bin (e_call1 (e_var rfl) hlen) (e_call1 (e_var rfl) hlen) ne_int)))) ?_
  exact e_ret (e_bin (e_lc (e_rng (n := xs.length) hl (e_call1 (e_var rfl) hlen)) hlc) (e_lst e_nil (lz (by simp))) eq_nil)
theorem same_non {m : Mem} {k : Nat} (hm : Ok m) : m__law_same (k + 1) m [.non, .non] = .ok (.bl true) m := by
  refine fn_rt rfl (d := .bl true) ?_ (leave_same hm rfl)
  unfold b__law_same
  exact e_seqR (e_ifS1 (e_tor1 (e_fB (e_bin (e_var rfl) e_c (is_of rfl)))) (e_ret (e_if1 (e_fB (e_bin (e_var rfl) e_c (is_of rfl))) (e_bin (e_var rfl) e_c (is_of rfl)))))
theorem eq_bl {m : Mem} {p : Bool} : opEq m (.bl p) (.bl p) = .ok (.bl true) m := by
  simp [opEq, eqD]
theorem eq_int {m : Mem} {i : Int} : opEq m (.int i) (.int i) = .ok (.bl true) m := by
  simp [opEq, eqD]
theorem same_bl {m : Mem} {k : Nat} {b : Bool} (hm : Ok m) : m__law_same (k + 1) m [.bl b, .bl b] = .ok (.bl true) m := by
  have i1 : isiD CS ["bool"] m (.bl b) = .ok (.bl true) m := rfl
  have n1 : isD (.bl b) .non = some false := rfl
  refine fn_rt rfl (d := .bl true) ?_ (leave_same hm rfl)
  unfold b__law_same
  exact e_seqR (e_ifS1 (e_tor0 (e_fB (e_bin (e_var rfl) e_c (is_of n1))) (e_trb (e_f1 (e_var rfl) i1))) (e_ret (e_if0 (e_fB (e_bin (e_var rfl) e_c (is_of n1))) (e_and1 (e_f1 (e_var rfl) i1) (e_bin (e_bin (e_var rfl) e_c (is_of rfl)) (e_bin (e_var rfl) e_c (is_of rfl)) eq_bl)))))
theorem same_int {m : Mem} {k : Nat} {i : Int} (hm : Ok m) : m__law_same (k + 1) m [.int i, .int i] = .ok (.bl true) m := by
  have i1 : isiD CS ["bool"] m (.int i) = .ok (.bl false) m := rfl
  have i2 : isiD CS ["int"] m (.int i) = .ok (.bl true) m := rfl
  have n1 : isD (.int i) .non = some false := rfl
  have s0 : opSub m (.int i) (.int i) = .ok (.int 0) m := by rw [opSub, Int.sub_self]
  refine fn_rt rfl (d := .bl true) ?_ (leave_same hm rfl)
  unfold b__law_same
  refine e_seq (e_skip (e_tor0 (e_fB (e_bin (e_var rfl) e_c (is_of n1))) (e_trb (e_f1 (e_var rfl) i1)))) ?_
  exact e_seqR (e_ifS1 (e_trb (e_f1 (e_var rfl) i2)) (e_ret (e_and1 (e_f1 (e_var rfl) i2) (e_and1 (e_notT (e_trb (e_f1 (e_var rfl) i1))) (e_bin (e_bin (e_call1 (e_var rfl) rfl) (e_var rfl) s0) e_c eq_int)))))
theorem e_sl {env : DL.Env} {m m1 m2 m3 : Mem} {a : D} {fa : FE} {fl fh : FO} {lo hi : Option Int} {r : R D} (ha : fa env m = .ok a m1) (h1 : fl env m1 = .ok lo m2) (h2 : fh env m2 = .ok hi m3) (h : slD m3 lo hi a = r) : fSl fa fl fh env m = r := by
  unfold fSl
  rw [ha, R.bind, h1, R.bind, h2, R.bind, h]
theorem e_some {env : DL.Env} {m m1 : Mem} {i : Int} {fa : FE} (ha : fa env m = .ok (.int i) m1) : oSome fa env m = .ok (some i) m1 := by
  unfold oSome
  rw [ha, R.bind]
theorem cut_one {z : Str} {k : Nat} (h : k < z.cps.toList.length) : cutS z (some (k : Int)) (some ((k : Int) + 1)) = ⟨#[z.cps.toList[k]]⟩ := by
  have hz : z.length = z.cps.toList.length := TL.len_tl z
  have e : ((k : Int) + 1) = ((k + 1 : Nat) : Int) := by omega
  rw [e]
  unfold cutS
  rw [HT.sIx_nat, HT.sIx_nat, hz, Nat.min_eq_left (by omega), Nat.min_eq_left (by omega), show k + 1 - k = 1 by omega]
  congr 1
  rw [List.drop_eq_getElem_cons h]
  rfl
theorem same_str {m : Mem} {k : Nat} {x : Str} (hm : Ok m) (hx : x.length ≤ 1000) : m__law_same (k + 1) m [.str x, .str x] = .ok (.bl true) m := by
  have i1 : isiD CS ["bool"] m (.str x) = .ok (.bl false) m := rfl
  have i2 : isiD CS ["int"] m (.str x) = .ok (.bl false) m := rfl
  have i3 : isiD CS ["str"] m (.str x) = .ok (.bl true) m := rfl
  have n1 : isD (.str x) .non = some false := rfl
  have hl := len_str (m := m) hx
  have hlc : lcGo (.its (rangeD 0 x.length)) (tName 3) (fB (fBin opNe (fSl (fVar 0) (oSome (fVar 3)) (oSome (fBin opAdd (fVar 3) (fC (.int 1))))) (fBin opIx (fVar 1) (fVar 3)))) (fVar 3) (wipeE [some (.str x), some (.str x), some (.bl true), none] [3]) ((rangeD 0 x.length).length + 1) 0 [] m = .ok [] m := by
    refine lc_none (by rw [rangeD_len, sizeLine_eq]; omega) fun z hz => ?_
    obtain ⟨i, hi, rfl⟩ := rangeD_mem hz
    refine ⟨_, rfl, ?_⟩
    have hi' : i < x.cps.toList.length := by rw [← TL.len_tl x]; exact hi
    have hz : x.length ≤ sizeLine := lz hx
    have s1 : slD m (some (i : Int)) (some ((i : Int) + 1)) (.str x) = .ok (.str ⟨#[x.cps.toList[i]]⟩) m := by
      show (if _ then _ else _) = _
      rw [if_pos hz, cut_one hi']
    have s2 : opIx m (.str x) (.int (i : Int)) = .ok (.str ⟨#[x.cps.toList[i]]⟩) m := by
      show (if _ then _ else _) = _
      rw [if_pos hz, atI_nat, List.getElem?_eq_getElem hi']
    have s3 : opNe m (.str ⟨#[x.cps.toList[i]]⟩) (.str ⟨#[x.cps.toList[i]]⟩) = .ok (.bl false) m := by simp [opNe, eqD]
    exact e_fB (e_bin (e_sl (e_var rfl) (e_some (e_var rfl)) (e_some (e_bin (e_var rfl) e_c rfl)) s1) (e_bin (e_var rfl) (e_var rfl) s2) s3)
  refine fn_rt rfl (d := .bl true) ?_ (leave_same hm rfl)
  unfold b__law_same
  refine e_seq (e_skip (e_tor0 (e_fB (e_bin (e_var rfl) e_c (is_of n1))) (e_trb (e_f1 (e_var rfl) i1)))) ?_
  refine e_seq (e_skip (e_trb (e_f1 (e_var rfl) i2))) ?_
  refine e_seqR (e_ifS1 (e_trb (e_f1 (e_var rfl) i3)) ?_)
  refine e_seq (e_set (e_and1 (e_f1 (e_var rfl) i3) (e_bin (e_call1 (e_var rfl) hl) (e_call1 (e_var rfl) hl) eq_int))) ?_
  exact e_ret (e_and1 (e_var rfl) (e_bin (e_lc (e_rng (n := x.length) (by omega) (e_call1 (e_var rfl) hl)) hlc) (e_lst e_nil (lz (by simp))) eq_nil))
/-- plain data, up to a depth -/
def okS : Nat → D → Prop
  | 0, _ => False
  | k + 1, d => match d with
    | .non => True
    | .bl _ => True
    | .int _ => True
    | .str x => x.length ≤ 1000
    | .lst xs => xs.length ≤ 5000 ∧ ∀ x ∈ xs, okS k x
    | .tup xs => xs.length ≤ 5000 ∧ ∀ x ∈ xs, okS k x
    | _ => False
theorem p_same {m : Mem} (hm : Ok m) : ∀ (k : Nat) (d : D), okS k d → m__law_same k m [d, d] = .ok (.bl true) m
  | 0, _, h => h.elim
  | k + 1, d, h => by
    cases d with
    | non => exact same_non hm
    | bl b => exact same_bl hm
    | int i => exact same_int hm
    | str x => exact same_str hm h
    | lst xs => exact same_seq hm (xs := xs) rfl (.inl rfl) rfl (fun i x hx => ix_lst (by rw [atI_nat, hx])) rfl (fun x hx => p_same hm k x (h.2 x hx)) h.1
    | tup xs => exact same_seq hm (xs := xs) rfl (.inr rfl) rfl (fun i x hx => ix_tup (by rw [atI_nat, hx])) rfl (fun x hx => p_same hm k x (h.2 x hx)) h.1
    | _ => exact h.elim
end LW
namespace LW
open PySem PySem.Spec PyProof.Rows L2 DL
theorem e_try {env e1 : DL.Env} {m m1 : Mem} {xs : List Str} {ht : Str → Str → Bool} {cls : List Cl} {f : FS} (h : f env m = .nx e1 m1) : fTry xs ht cls f env m = .nx e1 m1 := by
  unfold fTry
  rw [h]
theorem lowD_told {k : Nat} {d : D} (h : d.low k = true) : (D.lst [.str "told", d]).low k = true := low_cons rfl (low_cons h rfl)
theorem ask_ix {m : Mem} {d : D} {ds : List D} : opIx m (.lst (d :: ds)) (.int 0) = .ok d m := ix_lst (at0 _ _)
/-- asked 0: is_plain -/
theorem p_asked0 {m : Mem} {n : Nt} {b : Bool} (hm : Ok m) (h : NOk n) : m__law_asked m [.int 0, .lst [eObj n], .bl b] = .ok (.lst [.str "told", .bl (plainB n)]) m := by
  refine fn_rt rfl (d := .lst [.str "told", .bl (plainB n)]) ?_ (leave_same hm (lowD_told rfl))
  unfold b__law_asked
  have g : fIf (fTr (fVar 2)) (fAppK m_is_plain [0] (aCons (fBin opIx (fVar 1) (fC (.int 0))) aNil)) (fApp m_is_plain (aCons (fBin opIx (fVar 1) (fC (.int 0))) aNil)) (startE 5 [.int 0, .lst [eObj n], .bl b]) m = .ok (.bl (plainB n)) m := by
    cases b
    · exact e_if0 (e_trb (e_var rfl)) (e_app (e_cons (e_bin (e_var rfl) e_c ask_ix) e_nil) (p_is_plain hm h))
    · exact e_if1 (e_trb (e_var rfl)) (e_appK (e_cons (e_bin (e_var rfl) e_c ask_ix) e_nil) (p_is_plain hm h))
  refine e_seq (e_try (e_ifS1 (e_fB (e_bin (e_var rfl) e_c eq_int)) (e_set g))) ?_
  exact e_ret (e_lst (e_cons e_c (e_cons (e_var rfl) e_nil)) (lz (by simp)))
theorem ne_lit {m : Mem} {i j : Int} (h : i ≠ j) : opEq m (.int i) (.int j) = .ok (.bl false) m := by
  simp [opEq, eqD, h]
theorem p_asked1 {m : Mem} {n : Nt} {b : Bool} (hm : Ok m) (h : NOk n) : m__law_asked m [.int 1, .lst [eObj n], .bl b] = .ok (.lst [.str "told", eObj (endN 0 n)]) m := by
  refine fn_rt rfl (d := .lst [.str "told", eObj (endN 0 n)]) ?_ (leave_same hm (lowD_told low_eObj))
  unfold b__law_asked
  have g : fIf (fTr (fVar 2)) (fAppK m_top [0] (aCons (fBin opIx (fVar 1) (fC (.int 0))) aNil)) (fApp m_top (aCons (fBin opIx (fVar 1) (fC (.int 0))) aNil)) (startE 5 [.int 1, .lst [eObj n], .bl b]) m = .ok (eObj (endN 0 n)) m := by
    cases b
    · exact e_if0 (e_trb (e_var rfl)) (e_app (e_cons (e_bin (e_var rfl) e_c ask_ix) e_nil) (p_top hm h))
    · exact e_if1 (e_trb (e_var rfl)) (e_appK (e_cons (e_bin (e_var rfl) e_c ask_ix) e_nil) (p_top hm h))
  refine e_seq (e_try (e_ifS0 (e_fB (e_bin (e_var rfl) e_c (ne_lit (by decide)))) (e_ifS1 (e_fB (e_bin (e_var rfl) e_c eq_int)) (e_set g)))) ?_
  exact e_ret (e_lst (e_cons e_c (e_cons (e_var rfl) e_nil)) (lz (by simp)))
theorem p_asked2 {m : Mem} {n : Nt} {b : Bool} (hm : Ok m) (h : NOk n) : m__law_asked m [.int 2, .lst [eObj n], .bl b] = .ok (.lst [.str "told", eObj (endN 1 n)]) m := by
  refine fn_rt rfl (d := .lst [.str "told", eObj (endN 1 n)]) ?_ (leave_same hm (lowD_told low_eObj))
  unfold b__law_asked
  have g : fIf (fTr (fVar 2)) (fAppK m_bottom [0] (aCons (fBin opIx (fVar 1) (fC (.int 0))) aNil)) (fApp m_bottom (aCons (fBin opIx (fVar 1) (fC (.int 0))) aNil)) (startE 5 [.int 2, .lst [eObj n], .bl b]) m = .ok (eObj (endN 1 n)) m := by
    cases b
    · exact e_if0 (e_trb (e_var rfl)) (e_app (e_cons (e_bin (e_var rfl) e_c ask_ix) e_nil) (p_bottom hm h))
    · exact e_if1 (e_trb (e_var rfl)) (e_appK (e_cons (e_bin (e_var rfl) e_c ask_ix) e_nil) (p_bottom hm h))
  refine e_seq (e_try (e_ifS0 (e_fB (e_bin (e_var rfl) e_c (ne_lit (by decide)))) (e_ifS0 (e_fB (e_bin (e_var rfl) e_c (ne_lit (by decide)))) (e_ifS1 (e_fB (e_bin (e_var rfl) e_c eq_int)) (e_set g))))) ?_
  exact e_ret (e_lst (e_cons e_c (e_cons (e_var rfl) e_nil)) (lz (by simp)))
end LW
namespace LW
open PySem PySem.Spec PyProof.Rows L2 DL
theorem pyDs_map {α : Type} (f : α → D) : ∀ xs : List α, pyDs (xs.map f) = xs.map fun x => pyD (f x)
  | [] => by simp [pyDs]
  | x :: xs => by rw [List.map_cons, pyDs, pyDs_map f xs, List.map_cons]
theorem pyD_eI (w : Nat) : pyD (eI w) = .int w := by simp [eI, pyD]
theorem pyD_eG (g : G) : pyD (eG g) = .tuple [.str (kS g.k), .tuple (g.ws.map fun w : Nat => PyData.int (w : Int))] := by
  rw [eG, pyD, pyDs, pyDs, pyDs, pyD, eW, pyD, pyDs_map]
  simp only [pyD_eI]
theorem lay_ints : ∀ ws : List Nat, PyData.canLayAll0 (ws.map fun w : Nat => PyData.int (w : Int)) = true
  | [] => by simp [PyData.canLayAll0]
  | w :: ws => by rw [List.map_cons, PyData.canLayAll0, lay_ints ws, PyData.canLay0]; rfl
theorem lay_k : ∀ k, PyData.canLay0 (.str (kS k)) = true
  | 0 => by rw [PyData.canLay0]; show PyData.strOk "and" = true; decide +kernel
  | 1 => by rw [PyData.canLay0]; show PyData.strOk "or" = true; decide +kernel
  | k + 2 => by rw [PyData.canLay0]; show PyData.strOk "not" = true; decide +kernel
theorem lay_g (g : G) : PyData.canLay0 (pyD (eG g)) = true := by
  rw [pyD_eG, PyData.canLay0, PyData.canLayAll0, PyData.canLayAll0, PyData.canLayAll0, lay_k, PyData.canLay0, lay_ints]
  rfl
theorem lay_gs : ∀ gs : List G, PyData.canLayAll0 (gs.map fun g => pyD (eG g)) = true
  | [] => by simp [PyData.canLayAll0]
  | g :: gs => by rw [List.map_cons, PyData.canLayAll0, lay_g, lay_gs gs]; rfl
theorem eqv_ints : ∀ ws vs : List Nat, PyData.eqvAll (ws.map fun w : Nat => PyData.int (w : Int)) (vs.map fun w : Nat => PyData.int (w : Int)) = decide (ws = vs)
  | [], [] => by simp [PyData.eqvAll]
  | [], _ :: _ => by simp [PyData.eqvAll]
  | _ :: _, [] => by simp [PyData.eqvAll]
  | w :: ws, v :: vs => by
    rw [List.map_cons, List.map_cons, PyData.eqvAll, eqv_ints ws vs, PyData.eqv]
    by_cases h : w = v <;> by_cases h2 : ws = vs <;> simp [h, h2]
    omega
theorem eqv_g (g h : G) : PyData.eqv (pyD (eG g)) (pyD (eG h)) = (decide (kS g.k = kS h.k) && decide (g.ws = h.ws)) := by
  rw [pyD_eG, pyD_eG, PyData.eqv, PyData.eqvAll, PyData.eqvAll, PyData.eqvAll, PyData.eqv, PyData.eqv, eqv_ints]
  by_cases h1 : kS g.k = kS h.k <;> simp [h1]
theorem eqv_self : ∀ gs : List G, PyData.eqvAll (gs.map fun g => pyD (eG g)) (gs.map fun g => pyD (eG g)) = true
  | [] => by simp [PyData.eqvAll]
  | g :: gs => by
    rw [List.map_cons, PyData.eqvAll, eqv_self gs, eqv_g]
    simp
theorem eqv_end {s : Nat} (hs : s ≤ 1) : ∀ gs : List G, (∀ g ∈ gs, g.k ≤ 2) → PyData.eqvAll ((gs.map fun g => if g.k = 2 then ⟨s, []⟩ else g).map fun g => pyD (eG g)) (gs.map fun g => pyD (eG g)) = gs.all fun g => decide (g.k ≠ 2)
  | [], _ => by simp [PyData.eqvAll]
  | g :: gs, h => by
    rw [List.map_cons, List.map_cons, List.map_cons, PyData.eqvAll, eqv_end hs gs fun x hx => h x (List.mem_cons_of_mem _ hx), eqv_g, List.all_cons]
    by_cases hk : g.k = 2
    · have : ¬ kS s = kS 2 := fun e => by
        have := (kS_not (k := s) (by omega)).mp e
        omega
      simp [hk, this]
    · simp [hk]
theorem dep_ints : ∀ ws : List Nat, PyData.depthAll (ws.map fun w : Nat => PyData.int (w : Int)) = 0
  | [] => by simp [PyData.depthAll]
  | w :: ws => by rw [List.map_cons, PyData.depthAll, dep_ints ws, PyData.depth]; rfl
theorem dep_gs : ∀ gs : List G, PyData.depthAll (gs.map fun g => pyD (eG g)) ≤ 2
  | [] => by simp [PyData.depthAll]
  | g :: gs => by
    rw [List.map_cons, PyData.depthAll, pyD_eG, PyData.depth, PyData.depthAll, PyData.depthAll, PyData.depthAll, PyData.depth, PyData.depth, dep_ints]
    have := dep_gs gs
    omega
theorem pyD_gs (gs : List G) : pyD (.tup (gs.map eG)) = .tuple (gs.map fun g => pyD (eG g)) := by rw [pyD, pyDs_map]
theorem shaped_gs (gs : List G) : SeqAt.shaped (pyD (.tup (gs.map eG))) = true := by
  rw [pyD_gs, SeqAt.shaped, PyData.canLay0, lay_gs, PyData.depth, Bool.true_and]
  have := dep_gs gs
  exact decide_eq_true (by omega)
theorem eq_tups {m : Mem} {xs ys : List D} (h1 : SeqAt.shaped (pyD (.tup xs)) = true) (h2 : SeqAt.shaped (pyD (.tup ys)) = true) : opEq m (.tup xs) (.tup ys) = .ok (.bl (PyData.eqv (pyD (.tup xs)) (pyD (.tup ys)))) m := by
  have e : eqD m (.tup xs) (.tup ys) = some (PyData.eqv (pyD (.tup xs)) (pyD (.tup ys))) := by
    show (if _ then _ else _) = _
    rw [show res m (.tup xs) = .tup xs from rfl, show res m (.tup ys) = .tup ys from rfl, h1, h2]
    rfl
  unfold opEq
  rw [e]
theorem pyD_eW (ws : List Nat) : pyD (.tup (ws.map eI)) = .tuple (ws.map fun w : Nat => PyData.int (w : Int)) := by
  rw [pyD, pyDs_map]
  simp only [pyD_eI]
theorem shaped_eW (ws : List Nat) : SeqAt.shaped (pyD (.tup (ws.map eI))) = true := by
  rw [pyD_eW, SeqAt.shaped, PyData.canLay0, lay_ints, PyData.depth, dep_ints]
  decide
theorem eq_eW {m : Mem} {ws : List Nat} : opEq m (eW ws) (eW ws) = .ok (.bl true) m := by
  rw [eW, eq_tups (shaped_eW _) (shaped_eW _), pyD_eW, PyData.eqv, eqv_ints]
  simp
theorem eq_str_self {m : Mem} {x : Str} : opEq m (.str x) (.str x) = .ok (.bl true) m := by
  rw [eq_str]
  simp
theorem eq_gs {m : Mem} {gs hs : List G} : opEq m (.tup (gs.map eG)) (.tup (hs.map eG)) = .ok (.bl (PyData.eqvAll (gs.map fun g => pyD (eG g)) (hs.map fun g => pyD (eG g)))) m := by
  rw [eq_tups (shaped_gs _) (shaped_gs _), pyD_gs, pyD_gs, PyData.eqv]
theorem objs_net {m : Mem} {n : Nt} : objs "Net" m (eObj n) = true := by
  unfold objs eObj objOf
  exact decide_eq_true rfl
theorem p_eq {m : Mem} {n : Nt} {gs : List G} {b : Bool} (hm : Ok m) (hb : PyData.eqvAll (n.gs.map fun g => pyD (eG g)) (gs.map fun g => pyD (eG g)) = b) : m_Net_eq m [eObj n, eObj { n with gs := gs }] = .ok (.bl b) m := by
  refine fn_rt rfl (d := .bl b) ?_ (leave_same hm rfl)
  unfold b_Net_eq
  have f1 : ∀ {n : Nt}, fldD CS FSN "ins" m (eObj n) = some (eI n.ins) := fld_ins
  refine e_ret (e_and1 (e_f1 (e_var rfl) isNet) (e_and1 (e_bin (e_fld (e_var rfl) fld_ins) (e_fld (e_var rfl) fld_ins) eq_int) (e_and1 (e_bin (e_fld (e_var rfl) fld_first) (e_fld (e_var rfl) fld_first) eq_str_self) ?_)))
  have g := e_bin (m := m) (env := startE 2 [eObj n, eObj { n with gs := gs }]) (op := opEq) (fa := fFld CS FSN "gates" (fVar 0)) (fb := fFld CS FSN "gates" (fVar 1)) (e_fld (e_var rfl) fld_gates) (e_fld (e_var rfl) fld_gates) eq_gs
  rw [show ({ n with gs := gs } : Nt).gs = gs from rfl, hb] at g
  have r := e_and1 (m := m) (env := startE 2 [eObj n, eObj { n with gs := gs }]) (r := .ok (.bl true) m) (e_bin (op := opEq) (fa := fFld CS FSN "nexts" (fVar 0)) (fb := fFld CS FSN "nexts" (fVar 1)) (e_fld (e_var rfl) fld_nexts) (e_fld (e_var rfl) fld_nexts) eq_eW) (e_bin (op := opEq) (fa := fFld CS FSN "outs" (fVar 0)) (fb := fFld CS FSN "outs" (fVar 1)) (e_fld (e_var rfl) fld_outs) (e_fld (e_var rfl) fld_outs) eq_eW)
  have z := e_and g r
  rw [Bool.and_true] at z
  exact z
end LW
namespace LW
open PySem PySem.Spec PyProof.Rows L2 DL
theorem nots_lay : ∀ c : Nat, PyData.canLayAll0 (pyDs (List.replicate c (.str "not"))) = true ∧ PyData.depthAll (pyDs (List.replicate c (.str "not"))) = 0
  | 0 => by
    rw [List.replicate_zero, pyDs, PyData.canLayAll0, PyData.depthAll]
    exact ⟨rfl, rfl⟩
  | c + 1 => by
    obtain ⟨h1, h2⟩ := nots_lay c
    rw [List.replicate_succ, pyDs, PyData.canLayAll0, PyData.depthAll, h1, h2, pyD, PyData.canLay0, PyData.depth]
    exact ⟨by show (PyData.strOk "not" && true) = true; decide +kernel, rfl⟩
theorem eq_nots {m : Mem} (c : Nat) : opEq m (.lst (List.replicate c (.str "not"))) (.lst []) = .ok (.bl (decide (c = 0))) m := by
  obtain ⟨h1, h2⟩ := nots_lay c
  have s1 : SeqAt.shaped (pyD (.lst (List.replicate c (.str "not")))) = true := by
    rw [pyD, SeqAt.shaped, PyData.canLay0, h1, PyData.depth, h2]
    decide
  have s2 : SeqAt.shaped (pyD (.lst [])) = true := by
    rw [pyD, pyDs, SeqAt.shaped, PyData.canLay0, PyData.canLayAll0, PyData.depth, PyData.depthAll]
    decide
  have e : eqD m (.lst (List.replicate c (.str "not"))) (.lst []) = some (PyData.eqv (pyD (.lst (List.replicate c (.str "not")))) (pyD (.lst []))) := by
    show (if _ then _ else _) = _
    rw [show res m (.lst (List.replicate c (.str "not"))) = .lst (List.replicate c (.str "not")) from rfl, show res m (.lst []) = .lst [] from rfl, s1, s2]
    rfl
  unfold opEq
  rw [e, pyD, pyD, pyDs, PyData.eqv]
  cases c with
  | zero =>
    rw [List.replicate_zero, pyDs, PyData.eqvAll]
    rfl
  | succ c =>
    rw [List.replicate_succ, pyDs, PyData.eqvAll]
    rfl
theorem all_rep {α : Type} {c : α} : ∀ xs : List α, (∀ x ∈ xs, x = c) → xs = List.replicate xs.length c
  | [], _ => rfl
  | x :: xs, h => by
    rw [List.length_cons, List.replicate_succ, ← all_rep xs fun y hy => h y (List.mem_cons_of_mem _ hy), h x List.mem_cons_self]
section
variable {m : Mem} {n : Nt}
theorem nx0 : opIx m (eNet n) (.int 0) = .ok (eI n.ins) m := ix_lst (at0 _ _)
theorem nx1 : opIx m (eNet n) (.int 1) = .ok (.str (bitS n.first)) m := ix_lst (at1 _ _ _)
theorem nx2 : opIx m (eNet n) (.int 2) = .ok (.tup (n.gs.map eG)) m := ix_lst (at2 _ _ _ _)
theorem nx3 : opIx m (eNet n) (.int 3) = .ok (eW n.nx) m := ix_lst (at3 _ _ _ _ _)
theorem nx4 : opIx m (eNet n) (.int 4) = .ok (eW n.ou) m := ix_lst (at4 _ _ _ _ _ _)
theorem len_first (h : NOk n) : opLen m (.str (bitS n.first)) = .ok (eI n.first.length) m := by
  rw [len_str (by rw [bitS_len]; have := h.f; omega), bitS_len]
  rfl
theorem len_gs : opLen m (.tup (n.gs.map eG)) = .ok (eI n.gs.length) m := by
  rw [len_tup, List.length_map]
  rfl
end
def eSize (n : Nt) : D := .lst [eI n.first.length, eI n.wires]
/-- the list of not-kinds is empty just where the net is plain -/
theorem lc_nots {m : Mem} {n : Nt} {env0 : DL.Env} {i j : Nat} (h : NOk n) (hi : ∀ a b, ((env0.set i (some a)).set j (some b))[i]? = some (some a)) : ∃ c : Nat, decide (c = 0) = plainB n ∧ lcGo (.its (n.gs.map eG)) (tTupG 2 (tConsG (tName i) (tConsG (tName j) tNilG))) (fB (fBin opEq (fVar i) (fC (.str "not")))) (fVar i) env0 ((n.gs.map eG).length + 1) 0 [] m = .ok (List.replicate c (.str "not")) m := by
  have e := lc_filter (its := n.gs.map eG) (tg := tTupG 2 (tConsG (tName i) (tConsG (tName j) tNilG))) (ft := fB (fBin opEq (fVar i) (fC (.str "not")))) (fe := fVar i) (env0 := env0) (m := m) (fun d => match d with | .tup (.str k :: _) => decide (k = "not") | _ => false) (fun d => match d with | .tup (x :: _) => x | _ => .non) (by have := h.g; rw [List.length_map]; exact lz (by omega)) (fun d hd => by
    obtain ⟨g, hg, rfl⟩ := List.mem_map.mp hd
    exact ⟨_, rfl, e_fB (e_bin (e_var (hi _ _)) e_c eq_str), fun _ => e_var (hi _ _)⟩)
  refine ⟨(((n.gs.map eG).filter fun d => match d with | .tup (.str k :: _) => decide (k = "not") | _ => false).map fun d => match d with | .tup (x :: _) => x | _ => .non).length, ?_, ?_⟩
  · rw [List.length_map]
    have hp : plainB n = true ↔ ∀ g ∈ n.gs, g.k ≠ 2 := by simp [plainB]
    by_cases hb : plainB n = true
    · rw [hb]
      apply decide_eq_true
      rw [List.length_eq_zero_iff, List.filter_eq_nil_iff]
      intro d hd
      obtain ⟨g, hg, rfl⟩ := List.mem_map.mp hd
      have := hp.mp hb g hg
      simp [eG, kS_not (h.kOk g hg), this]
    · rw [Bool.not_eq_true] at hb
      rw [hb]
      apply decide_eq_false
      rw [List.length_eq_zero_iff, List.filter_eq_nil_iff]
      intro hz
      have : plainB n = true := hp.mpr fun g hg hk => hz (eG g) (List.mem_map.mpr ⟨g, hg, rfl⟩) (by show decide (kS g.k = "not") = true; exact decide_eq_true ((kS_not (h.kOk g hg)).mpr hk))
      rw [this] at hb
      cases hb
  · rw [e]
    congr 1
    refine all_rep _ fun x hx => ?_
    obtain ⟨d, hd, rfl⟩ := List.mem_map.mp hx
    obtain ⟨h1, h2⟩ := List.mem_filter.mp hd
    obtain ⟨g, hg, rfl⟩ := List.mem_map.mp h1
    have h2 : decide (kS g.k = "not") = true := h2
    show D.str (kS g.k) = _
    rw [of_decide_eq_true h2]
end LW
namespace LW
open PySem PySem.Spec PyProof.Rows L2 DL
theorem okS_eW {k : Nat} {ws : List Nat} (h : ws.length ≤ 5000) : okS (k + 2) (eW ws) :=
  ⟨by rw [List.length_map]; exact h, fun x hx => by
    obtain ⟨w, _, rfl⟩ := List.mem_map.mp hx
    trivial⟩
theorem okS_k {k c : Nat} : okS (k + 1) (.str (kS c)) := by
  show (kS c).length ≤ 1000
  match c with
  | 0 => decide
  | 1 => decide
  | c + 2 =>
    show ("not" : Str).length ≤ 1000
    decide
theorem okS_eG {k : Nat} {g : G} (h : g.ws.length ≤ 5000) : okS (k + 3) (eG g) :=
  ⟨by simp, fun x hx => by
    rcases List.mem_cons.mp hx with rfl | hx
    · exact okS_k
    · rw [List.mem_singleton.mp hx]
      exact okS_eW h⟩
theorem NOk.wl {n : Nt} (h : NOk n) {g : G} (hg : g ∈ n.gs) : g.ws.length ≤ 3 := by
  obtain ⟨i, hi⟩ := List.mem_iff_getElem?.mp hg
  exact (h.gs i g hi).l
theorem okS_gs {k : Nat} {n : Nt} (h : NOk n) : okS (k + 4) (.tup (n.gs.map eG)) :=
  ⟨by rw [List.length_map]; have := h.g; omega, fun x hx => by
    obtain ⟨g, hg, rfl⟩ := List.mem_map.mp hx
    exact okS_eG (by have := h.wl hg; omega)⟩
theorem okS_bits {k : Nat} {bs : List Bool} (h : bs.length ≤ 1000) : okS (k + 1) (.str (bitS bs)) := by
  show (bitS bs).length ≤ 1000
  rw [bitS_len]
  exact h
theorem okS_parts {k : Nat} {n : Nt} (h : NOk n) : okS (k + 5) (eParts n) :=
  ⟨by simp, fun x hx => by
    have h1 := h.f
    have h2 := h.nl
    have h3 := h.ol
    rcases List.mem_cons.mp hx with rfl | hx
    · trivial
    rcases List.mem_cons.mp hx with rfl | hx
    · exact okS_bits (by omega)
    rcases List.mem_cons.mp hx with rfl | hx
    · exact okS_gs h
    rcases List.mem_cons.mp hx with rfl | hx
    · exact okS_eW (by omega)
    rcases List.mem_cons.mp hx with rfl | hx
    · exact okS_eW (by omega)
    rcases List.mem_cons.mp hx with rfl | hx
    · trivial
    rw [List.mem_singleton.mp hx]
    trivial⟩
theorem same_parts {m : Mem} {n : Nt} (hm : Ok m) (h : NOk n) : m__law_same REC m [eParts n, eParts n] = .ok (.bl true) m := p_same hm 12 _ (okS_parts (k := 7) h)
theorem add_lists {m : Mem} {xs ys : List D} (h : xs.length + ys.length ≤ 1000) : opAdd m (.lst xs) (.lst ys) = .ok (.lst (xs ++ ys)) m := by
  show (if _ then _ else _) = _
  rw [if_pos (lz h)]
theorem add_parts {m : Mem} {n : Nt} : opAdd m (eNet n) (eSize n) = .ok (eParts n) m := add_lists (by simp)
theorem endN_wires {n : Nt} {s : Nat} : (endN s n).wires = n.wires := by simp [Nt.wires, endN]
theorem add_parts' {m : Mem} {n : Nt} {s : Nat} : opAdd m (eNet (endN s n)) (eSize n) = .ok (eParts (endN s n)) m := by
  have e : eSize n = eSize (endN s n) := by rw [eSize, eSize, endN_wires]; rfl
  rw [e]
  exact add_parts
theorem endN_end {n : Nt} {s t : Nat} (hs : s ≤ 1) : endN t (endN s n) = endN s n := by
  have e : ∀ g : G, (if (if g.k = 2 then (⟨s, []⟩ : G) else g).k = 2 then (⟨t, []⟩ : G) else (if g.k = 2 then (⟨s, []⟩ : G) else g)) = if g.k = 2 then ⟨s, []⟩ else g := fun g => by
    by_cases h : g.k = 2
    · simp [h]
      omega
    · simp [h]
  simp only [endN, List.map_map]
  congr 1
  exact List.map_congr_left fun g _ => e g
def xEnd : FS := fSeq (fSet 8 (fApp m__law_end (aCons (fVar 0) (aCons (fVar 7) aNil)))) (fSeq (fSet 9 (fApp m__law_asked (aCons (fBin opAdd (fC (.int 1)) (fVar 7)) (aCons (fLst (aCons (fVar 1) aNil)) (aCons (fBin opEq (fVar 2) (fBin opEq (fVar 7) (fC (.int 0)))) aNil))))) (fSeq (fIfS (tfOr (fB (fBin opNe (fBin opIx (fVar 9) (fC (.int 0))) (fC (.str "told")))) (tfOr (tfNot (fTr (fApp (m__law_same REC) (aCons (fApp m__law_parts (aCons (fBin opIx (fVar 9) (fC (.int 1))) aNil)) (aCons (fBin opAdd (fVar 8) (fVar 3)) aNil))))) (tfNot (fTr (fApp (m__law_same REC) (aCons (fApp m__law_parts (aCons (fVar 1) aNil)) (aCons (fBin opAdd (fVar 0) (fVar 3)) aNil))))))) (fRet (fC (.bl false))) fNext) (fSeq (fIfS (tfNot (fTr (fApp (m__law_same REC) (aCons (fLst (aCons (fBin (opOwn "Net" m_Net_eq) (fBin opIx (fVar 9) (fC (.int 1))) (fApp m__law_made (aCons (fVar 8) aNil))) (aCons (fBin (opOwn "Net" m_Net_eq) (fBin opIx (fVar 9) (fC (.int 1))) (fVar 1)) (aCons (fApp m_is_plain (aCons (fBin opIx (fVar 9) (fC (.int 1))) aNil)) aNil)))) (aCons (fLst (aCons (fC (.bl true)) (aCons (fVar 4) (aCons (fC (.bl true)) aNil)))) aNil))))) (fRet (fC (.bl false))) fNext) (fIfS (tfNot (fTr (fApp (m__law_same REC) (aCons (fApp m__law_parts (aCons (fApp m_top (aCons (fApp m_bottom (aCons (fBin opIx (fVar 9) (fC (.int 1))) aNil)) aNil)) aNil)) (aCons (fBin opAdd (fVar 8) (fVar 3)) aNil))))) (fRet (fC (.bl false))) fNext))))
theorem own_eq {m : Mem} {a c : Nt} {r : Bool} (h : m_Net_eq m [eObj a, eObj c] = .ok (.bl r) m) : opOwn "Net" m_Net_eq m (eObj a) (eObj c) = .ok (.bl r) m := by
  unfold opOwn
  rw [objs_net, objs_net, h]
  rfl
theorem d_end {m : Mem} {n : Nt} {b : Bool} {s : Nat} {z5 z6 z8 z9 : Option D} (hs : s ≤ 1) (hm : Ok m) (h : NOk n) : ∃ w8 w9 : Option D, xEnd [some (eNet n), some (eObj n), some (.bl b), some (eSize n), some (.bl (plainB n)), z5, z6, some (eI s), z8, z9] m = .nx [some (eNet n), some (eObj n), some (.bl b), some (eSize n), some (.bl (plainB n)), z5, z6, some (eI s), w8, w9] m := by
  have hE := h.endN hs
  have ha : fApp m__law_asked (aCons (fBin opAdd (fC (.int 1)) (fVar 7)) (aCons (fLst (aCons (fVar 1) aNil)) (aCons (fBin opEq (fVar 2) (fBin opEq (fVar 7) (fC (.int 0)))) aNil))) [some (eNet n), some (eObj n), some (.bl b), some (eSize n), some (.bl (plainB n)), z5, z6, some (eI s), some (eNet (endN s n)), z9] m = .ok (.lst [.str "told", eObj (endN s n)]) m := by
    match s, hs with
    | 0, _ =>
      have e2 : opEq m (.bl b) (.bl true) = .ok (.bl (decide (b = true))) m := rfl
      exact e_app (e_cons (e_bin e_c (e_var rfl) rfl) (e_cons (e_lst (e_cons (e_var rfl) e_nil) (lz (by simp))) (e_cons (e_bin (e_var rfl) (e_bin (e_var rfl) e_c eq_int) e2) e_nil))) (p_asked1 hm h)
    | 1, _ =>
      have e2 : opEq m (.bl b) (.bl false) = .ok (.bl (decide (b = false))) m := rfl
      exact e_app (e_cons (e_bin e_c (e_var rfl) rfl) (e_cons (e_lst (e_cons (e_var rfl) e_nil) (lz (by simp))) (e_cons (e_bin (e_var rfl) (e_bin (e_var rfl) e_c (ne_lit (by decide))) e2) e_nil))) (p_asked2 hm h)
  have t1 : opIx m (.lst [.str "told", eObj (endN s n)]) (.int 1) = .ok (eObj (endN s n)) m := ix_lst (at1 _ _ _)
  have ne1 : opNe m (.str "told") (.str "told") = .ok (.bl false) m := by simp [opNe, eqD]
  refine ⟨some (eNet (endN s n)), some (.lst [.str "told", eObj (endN s n)]), ?_⟩
  unfold xEnd
  refine e_seq (e_set (e_app (e_cons (e_var rfl) (e_cons (e_var rfl) e_nil)) (p_end hs hm h))) ?_
  refine e_seq (e_set ha) ?_
  refine e_seq (e_skip (e_tor0 (e_fB (e_bin (e_bin (e_var rfl) e_c ask_ix) e_c ne1)) (e_tor0 (e_tnot (e_trb (e_app (e_cons (e_app (e_cons (e_bin (e_var rfl) e_c t1) e_nil) (p_parts hm)) (e_cons (e_bin (e_var rfl) (e_var rfl) add_parts') e_nil)) (same_parts hm hE)))) (e_tnot (e_trb (e_app (e_cons (e_app (e_cons (e_var rfl) e_nil) (p_parts hm)) (e_cons (e_bin (e_var rfl) (e_var rfl) add_parts) e_nil)) (same_parts hm h))))))) ?_
  have q1 : m_Net_eq m [eObj (endN s n), eObj (endN s n)] = .ok (.bl true) m := p_eq (n := endN s n) (gs := (endN s n).gs) hm (eqv_self _)
  have q2 : m_Net_eq m [eObj (endN s n), eObj n] = .ok (.bl (plainB n)) m := p_eq (n := endN s n) (gs := n.gs) hm (eqv_end hs n.gs h.kOk)
  have q3 : m_is_plain m [eObj (endN s n)] = .ok (.bl true) m := by rw [p_is_plain hm hE, endN_plain hs]
  have q4 : m__law_same REC m [.lst [.bl true, .bl (plainB n), .bl true], .lst [.bl true, .bl (plainB n), .bl true]] = .ok (.bl true) m := p_same hm 12 _ (show okS (10 + 2) _ from ⟨by simp, fun x hx => by
    rcases List.mem_cons.mp hx with rfl | hx
    · trivial
    rcases List.mem_cons.mp hx with rfl | hx
    · trivial
    rw [List.mem_singleton.mp hx]
    trivial⟩)
  refine e_seq (e_skip (e_tnot (e_trb (e_app (e_cons (e_lst (e_cons (e_bin (e_bin (e_var rfl) e_c t1) (e_app (e_cons (e_var rfl) e_nil) (p_made hm hE)) (own_eq q1)) (e_cons (e_bin (e_bin (e_var rfl) e_c t1) (e_var rfl) (own_eq q2)) (e_cons (e_app (e_cons (e_bin (e_var rfl) e_c t1) e_nil) q3) e_nil))) (lz (by simp))) (e_cons (e_lst (e_cons e_c (e_cons (e_var rfl) (e_cons e_c e_nil))) (lz (by simp))) e_nil)) q4)))) ?_
  have q5 : m_bottom m [eObj (endN s n)] = .ok (eObj (endN s n)) m := by rw [p_bottom hm hE, endN_end hs]
  have q6 : m_top m [eObj (endN s n)] = .ok (eObj (endN s n)) m := by rw [p_top hm hE, endN_end hs]
  exact e_skip (e_tnot (e_trb (e_app (e_cons (e_app (e_cons (e_app (e_cons (e_app (e_cons (e_bin (e_var rfl) e_c t1) e_nil) q5) e_nil) q6) e_nil) (p_parts hm)) (e_cons (e_bin (e_var rfl) (e_var rfl) add_parts') e_nil)) (same_parts hm hE))))
end LW
namespace LW
open PySem PySem.Spec PyProof.Rows L2 DL
theorem b_ends_eq : b__law_ends_right = fSeq (fPar 3 4 (fLst (aCons (fCall (op1 opLen) (aCons (fBin opIx (fVar 0) (fC (.int 1))) aNil)) (aCons (fBin opAdd (fBin opAdd (fBin opIx (fVar 0) (fC (.int 0))) (fCall (op1 opLen) (aCons (fBin opIx (fVar 0) (fC (.int 1))) aNil))) (fCall (op1 opLen) (aCons (fBin opIx (fVar 0) (fC (.int 2))) aNil))) aNil))) (fBin opEq (fLc (fItr (fBin opIx (fVar 0) (fC (.int 2)))) [5, 6] (tTupG 2 (tConsG (tName 5) (tConsG (tName 6) tNilG))) (fB (fBin opEq (fVar 5) (fC (.str "not")))) (fVar 5)) (fLst aNil))) (fSeq (fIfS (tfNot (fTr (fApp (m__law_same REC) (aCons (fApp m__law_asked (aCons (fC (.int 0)) (aCons (fLst (aCons (fVar 1) aNil)) (aCons (fVar 2) aNil)))) (aCons (fLst (aCons (fC (.str "told")) (aCons (fVar 4) aNil))) aNil))))) (fRet (fC (.bl false))) fNext) (fSeq (fFor (fRng1 (aCons (fC (.int 2)) aNil)) (tName 7) xEnd) (fRet (fC (.bl true))))) := rfl
theorem p_ends {m : Mem} {n : Nt} {b : Bool} (hm : Ok m) (h : NOk n) : m__law_ends_right m [eNet n, eObj n, .bl b] = .ok (.bl true) m := by
  obtain ⟨c, hc, hl⟩ := lc_nots (m := m) (env0 := wipeE (startE 10 [eNet n, eObj n, .bl b]) [5, 6]) (i := 5) (j := 6) h (fun _ _ => rfl)
  have hq : m__law_same REC m [.lst [.str "told", .bl (plainB n)], .lst [.str "told", .bl (plainB n)]] = .ok (.bl true) m := p_same hm 12 _ (show okS (10 + 2) _ from ⟨by simp, fun x hx => by
    rcases List.mem_cons.mp hx with rfl | hx
    · show ("told" : Str).length ≤ 1000
      decide
    rw [List.mem_singleton.mp hx]
    trivial⟩)
  have hf : ∃ e' : DL.Env, forGo (.its (rangeD 0 2)) (tName 7) xEnd ((rangeD 0 2).length + 1) 0 [some (eNet n), some (eObj n), some (.bl b), some (eSize n), some (.bl (plainB n)), none, none, none, none, none] m = .nx e' m := by
    obtain ⟨e', m', h1, ⟨z7, z8, z9, rfl⟩, rfl⟩ := for_inv (its := rangeD 0 2) (tg := tName 7) (fb := xEnd) (fun i env m1 => (∃ z7 z8 z9 : Option D, env = [some (eNet n), some (eObj n), some (.bl b), some (eSize n), some (.bl (plainB n)), none, none, z7, z8, z9]) ∧ m1 = m) (fun i d env m1 hd hI => by
      obtain ⟨⟨z7, z8, z9, rfl⟩, rfl⟩ := hI
      obtain ⟨s, hs, rfl⟩ := rangeD_mem (List.mem_of_getElem? hd)
      obtain ⟨w8, w9, hx⟩ := d_end (s := s) (b := b) (z5 := none) (z6 := none) (z8 := z8) (z9 := z9) (by omega) hm h
      exact ⟨_, rfl, _, _, .inl hx, ⟨_, _, _, rfl⟩, rfl⟩) ((rangeD 0 2).length + 1) 0 [some (eNet n), some (eObj n), some (.bl b), some (eSize n), some (.bl (plainB n)), none, none, none, none, none] m (by omega) (by omega) ⟨⟨_, _, _, rfl⟩, rfl⟩
    exact ⟨_, h1⟩
  obtain ⟨e', hf⟩ := hf
  have e4 : opEq m (.lst (List.replicate c (.str "not"))) (.lst []) = .ok (.bl (plainB n)) m := by rw [eq_nots, hc]
  refine fn_rt rfl (d := .bl true) (m' := m) ?_ (leave_same hm rfl)
  rw [b_ends_eq]
  refine e_seq (e_par (e_lst (e_cons (e_call1 (e_bin (e_var rfl) e_c nx1) (len_first h)) (e_cons (e_bin (e_bin (e_bin (e_var rfl) e_c nx0) (e_call1 (e_bin (e_var rfl) e_c nx1) (len_first h)) add_nat) (e_call1 (e_bin (e_var rfl) e_c nx2) len_gs) add_nat) e_nil)) (lz (by simp))) (e_bin (e_lc (e_itrT (e_bin (e_var rfl) e_c nx2)) hl) (e_lst e_nil (lz (by simp))) e4)) ?_
  refine e_seq (e_skip (e_tnot (e_trb (e_app (e_cons (e_app (e_cons e_c (e_cons (e_lst (e_cons (e_var rfl) e_nil) (lz (by simp))) (e_cons (e_var rfl) e_nil))) (p_asked0 hm h)) (e_cons (e_lst (e_cons e_c (e_cons (e_var rfl) e_nil)) (lz (by simp))) e_nil)) hq)))) ?_
  exact e_seq (e_for (e_rng (n := 2) (by omega) e_c) hf) (e_ret e_c)
end LW
namespace LW
open PySem PySem.Spec PyProof.Rows L2 DL
def eB (b : Bool) : D := .int (if b then 1 else 0)
abbrev Hs := List (List Key × Bool)
def eH (hs : Hs) : D := .dt (hs.map (·.1)) (hs.map fun p => eB p.2)
def hget (hs : Hs) (k : List Key) (b : Bool) : Bool := ((hs.find? fun p => decide (p.1 = k)).map (·.2)).getD b
theorem zfind_hs (k : List Key) : ∀ hs : Hs, zfind (hs.map (·.1)) (hs.map fun p => eB p.2) k = ((hs.find? fun p => decide (p.1 = k)).map (·.2)).map eB
  | [] => rfl
  | p :: hs => by
    by_cases h : p.1 = k
    · simp [zfind, h]
    · have ih := zfind_hs k hs
      simp only [zfind] at ih
      simp [zfind, h, ih]
theorem e_get {env : DL.Env} {m m1 m2 m3 : Mem} {hs : Hs} {xs : List D} {k : List Key} {b : Bool} {fo fe fx : FE} (ho : fo env m = .ok (eH hs) m1) (hk : fe env m1 = .ok (.tup xs) m2) (hx : fx env m2 = .ok (eB b) m3) (hq : keysD xs = some k) : fGet2 fo fe fx env m = .ok (eB (hget hs k b)) m3 := by
  unfold fGet2
  rw [ho, R.bind]
  have e1 : ∀ m, dicOf m (eH hs) = some (.t (hs.map (·.1)) (hs.map fun p => eB p.2)) := fun _ => rfl
  rw [e1]
  dsimp only
  rw [hk, R.bind, hx, R.bind, e1]
  dsimp only
  have e2 : dicGet (.t (hs.map (·.1)) (hs.map fun p => eB p.2)) (.tup xs) = some (((hs.find? fun p => decide (p.1 = k)).map (·.2)).map eB) := by
    show (keysD xs).map (fun k => zfind (hs.map (·.1)) (hs.map fun p => eB p.2) k) = _
    rw [hq, Option.map_some, zfind_hs]
  rw [e2]
  unfold hget
  cases hs.find? fun p => decide (p.1 = k) with
  | none => rfl
  | some p => rfl
/-- the sign that a gate shows -/
def gsig (k : Nat) (bs : List Bool) : Bool := match k with
  | 0 => bs.all _root_.id
  | 1 => bs.any _root_.id
  | _ => !(bs.headD true)
/-- signs after the gates, each read and each sign through the hurts -/
def gread (hs : Hs) (at_ : Nat) (sig : List Bool) (ws : List Nat) : List Bool := ws.mapIdx fun k w => hget hs [.inr "gate", .inl at_, .inl k] (sig.getD w false)
def gates (hs : Hs) : Nat → List G → List Bool → List Bool
  | _, [], sig => sig
  | i, g :: gs, sig => gates hs (i + 1) gs (sig ++ [hget hs [.inr "wire", .inl sig.length] (gsig g.k (gread hs i sig g.ws))])
def sigs (n : Nt) (now given : List Bool) (hs : Hs) : List Bool := gates hs 0 n.gs ((given ++ now).mapIdx fun i b => hget hs [.inr "wire", .inl i] b)
def stepF (n : Nt) (now given : List Bool) (hs : Hs) : List Bool × List Bool :=
  let sig := sigs n now given hs
  (n.nx.mapIdx fun i w => hget hs [.inr "next", .inl i] (sig.getD w false), n.ou.mapIdx fun i w => hget hs [.inr "out", .inl i] (sig.getD w false))
end LW
namespace LW
open PySem PySem.Spec PyProof.Rows L2 DL
theorem inD_bits {m : Mem} {c : Bool} (bs : List Bool) : inD m (eB c) (.lst (bs.map eB)) = some (bs.any fun b => b == c) := by
  have f : ((bs.map eB).map toV).all flatV = true := by
    rw [List.map_map, List.all_map, List.all_eq_true]
    exact fun b _ => rfl
  have g : inV (toV (eB c)) ((bs.map eB).map toV) = bs.any fun b => b == c := by
    unfold inV
    rw [List.map_map, List.any_map]
    congr 1
    funext b
    cases b <;> cases c <;> rfl
  show (if _ then _ else _) = _
  rw [if_pos ⟨rfl, f⟩, g]
theorem p_gate_sign {m : Mem} {k : Nat} {bs : List Bool} (hm : Ok m) (hk : k ≤ 2) (hb : k = 2 → bs ≠ []) : m_gate_sign m [.str (kS k), .lst (bs.map eB)] = .ok (eB (gsig k bs)) m := by
  refine fn_rt rfl (d := eB (gsig k bs)) (m' := m) ?_ (leave_same hm rfl)
  unfold b_gate_sign
  match k, hk with
  | 0, _ =>
    have i0 : opNin m (.int 0) (.lst (bs.map eB)) = .ok (.bl (!(bs.any fun b => b == false))) m := by
      unfold opNin
      rw [show inD m (.int 0) (.lst (bs.map eB)) = _ from inD_bits (c := false) bs]
    have i1 : opInt m (.bl (!(bs.any fun b => b == false))) = .ok (eB (gsig 0 bs)) m := by
      have e : (!(bs.any fun b => b == false)) = gsig 0 bs := by
        unfold gsig
        rw [List.not_any_eq_all_not]
        congr 1
        funext b
        cases b <;> rfl
      rw [e]
      rfl
    exact e_seqR (e_ifS1 (e_fB (e_bin (e_var rfl) e_c eq_str_self)) (e_ret (e_call1 (e_bin e_c (e_var rfl) i0) i1)))
  | 1, _ =>
    have ne : opEq m (.str "or") (.str "and") = .ok (.bl false) m := by rw [eq_str]; rfl
    have i0 : opIn m (.int 1) (.lst (bs.map eB)) = .ok (.bl (bs.any fun b => b == true)) m := by
      unfold opIn
      rw [show inD m (.int 1) (.lst (bs.map eB)) = _ from inD_bits (c := true) bs]
    have i1 : opInt m (.bl (bs.any fun b => b == true)) = .ok (eB (gsig 1 bs)) m := by
      have e : (bs.any fun b => b == true) = gsig 1 bs := by
        unfold gsig
        congr 1
        funext b
        cases b <;> rfl
      rw [e]
      rfl
    exact e_seq (e_skip (e_fB (e_bin (e_var rfl) e_c ne))) (e_ret (e_if1 (e_fB (e_bin (e_var rfl) e_c eq_str_self)) (e_call1 (e_bin e_c (e_var rfl) i0) i1)))
  | 2, _ =>
    have ne : opEq m (.str "not") (.str "and") = .ok (.bl false) m := by rw [eq_str]; rfl
    have ne2 : opEq m (.str "not") (.str "or") = .ok (.bl false) m := by rw [eq_str]; rfl
    cases bs with
    | nil => exact absurd rfl (hb rfl)
    | cons b bs =>
      have s : opSub m (.int 1) (eB b) = .ok (eB (gsig 2 (b :: bs))) m := by cases b <;> rfl
      exact e_seq (e_skip (e_fB (e_bin (e_var rfl) e_c ne))) (e_ret (e_if0 (e_fB (e_bin (e_var rfl) e_c ne2)) (e_bin e_c (e_bin (e_var rfl) e_c ask_ix) s)))
end LW
namespace LW
open PySem PySem.Spec PyProof.Rows L2 DL
section
variable {env : DL.Env} {m m1 m2 : Mem} {ds es : List D} {si : FI} {vs : List Nat} {tg : TgD} {t : FT} {fe : FE} {f : FS} {s : S}
theorem e_lcE (hi : si env m = .ok (.enm (.its ds)) m1) (hl : lcGo (.its (pairsFrom 0 ds)) tg t fe (wipeE env vs) (ds.length + 1) 0 [] m1 = .ok es m2) : fLc si vs tg t fe env m = .ok (.lst es) m2 := by
  unfold fLc lcAll
  rw [hi, R.bind, fuel_enm, pairs_len, lc_enm, hl, R.bind]
theorem e_lcCE (hi : si env m = .ok (.enm (.its ds)) m1) (hl : lcGo (.its (pairsFrom 0 ds)) tg t fe (wipeE env vs) (ds.length + 1) 0 [] m1 = .ok es m2) : fLcC si vs tg t fe env m = .ok (.cel m2.length) (m2 ++ [some (.lst es)]) := by
  unfold fLcC lcAll
  rw [hi, R.bind, fuel_enm, pairs_len, lc_enm, hl, R.bind]
theorem e_forE (hi : si env m = .ok (.enm (.its ds)) m1) (hl : forGo (.its (pairsFrom 0 ds)) tg f (ds.length + 1) 0 env m1 = s) : fFor si tg f env m = s := by
  unfold fFor
  rw [hi, R.bindS, fuel_enm, pairs_len, for_enm, hl]
end
theorem chars_bits (bs : List Bool) : chars (bitS bs) = bs.map sg := by
  unfold chars
  rw [bitS_list, List.map_map]
  rfl
theorem int_sg {m : Mem} {b : Bool} : opInt m (sg b) = .ok (eB b) m := by
  cases b
  · with_unfolding_all rfl
  · with_unfolding_all rfl
theorem str_eB {m : Mem} {b : Bool} : opStr m (eB b) = .ok (sg b) m := by
  cases b
  · with_unfolding_all rfl
  · with_unfolding_all rfl
theorem add_bits {m : Mem} {a b : List Bool} (h : a.length + b.length ≤ 1000) : opAdd m (.str (bitS a)) (.str (bitS b)) = .ok (.str (bitS (a ++ b))) m := by
  show (if _ then _ else _) = _
  rw [if_pos (by rw [bitS_len, bitS_len]; exact lz h)]
  have e : bitS a ++ bitS b = bitS (a ++ b) := TL.ext_tl (by rw [TL.tl_append]; show a.map bitC ++ b.map bitC = (a ++ b).map bitC; rw [List.map_append])
  rw [e]
end LW
namespace LW
open PySem PySem.Spec PyProof.Rows L2 DL
/-- a comprehension over enumerate of items, each a function of place and item -/
theorem lc_pairs {α : Type} {xs : List α} {e : α → D} {f : Nat → α → D} {tg : TgD} {ft : FT} {fe : FE} {env0 : DL.Env} {m : Mem} (hz : xs.length ≤ 5000)
    (h : ∀ (i : Nat) (x : α), xs[i]? = some x → ∃ e1, tg (.tup [.int (i : Int), e x]) env0 m = some e1 ∧ ft e1 m = .ok true m ∧ fe e1 m = .ok (f i x) m) :
    lcGo (.its (pairsFrom 0 (xs.map e))) tg ft fe env0 ((xs.map e).length + 1) 0 [] m = .ok (xs.mapIdx f) m := by
  have e0 : (xs.map e).length = (pairsFrom 0 (xs.map e)).length := (pairs_len _ _).symm
  have key : ∃ out m', lcGo (.its (pairsFrom 0 (xs.map e))) tg ft fe env0 ((pairsFrom 0 (xs.map e)).length + 1) 0 [] m = .ok out m' ∧ m' = m ∧ out = (xs.take (pairsFrom 0 (xs.map e)).length).mapIdx f := by
    obtain ⟨out, m', h1, h2, h3⟩ := lc_inv (its := pairsFrom 0 (xs.map e)) (tg := tg) (ft := ft) (fe := fe) (env0 := env0) (fun i acc m1 => m1 = m ∧ acc = (xs.take i).mapIdx f) (fun i d acc m1 hd hI => by
      obtain ⟨rfl, rfl⟩ := hI
      rw [pairs_get, List.getElem?_map, Nat.zero_add] at hd
      cases hx : xs[i]? with
      | none => rw [hx] at hd; cases hd
      | some x =>
        rw [hx] at hd
        cases hd
        obtain ⟨e1, a, b, c⟩ := h i x hx
        have hlt := (List.getElem?_eq_some_iff.mp hx).1
        refine ⟨e1, a, .inr ⟨_, f i x, _, b, c, ?_, rfl, ?_⟩⟩
        · rw [List.length_mapIdx, List.length_take, sizeLine_eq]
          omega
        · have el : (xs.take i).length = i := by rw [List.length_take]; omega
          rw [List.take_succ, hx, List.mapIdx_append]
          simp [el]) ((pairsFrom 0 (xs.map e)).length + 1) 0 [] m (by omega) (by omega) ⟨rfl, by simp⟩
    exact ⟨out, m', h1, h2, h3⟩
  obtain ⟨out, m', h1, rfl, rfl⟩ := key
  rw [e0, h1, pairs_len, List.length_map, List.take_length]
end LW
namespace LW
open PySem PySem.Spec PyProof.Rows L2 DL
def xStep : FS := fSeq (fSet 10 (fLc (fItr (fVar 9)) [5] (tName 5) fYes (fBin opIx (fVar 4) (fVar 5)))) (fSeq (fIfS (fB (fBin opNeE (fVar 3) fDk)) (fSet 10 (fLc (fEnm (aCons (fVar 10) aNil)) [11, 6] (tTupG 2 (tConsG (tName 11) (tConsG (tName 6) tNilG))) fYes (fGet2 (fVar 3) (fTup (aCons (fC (.str "gate")) (aCons (fVar 7) (aCons (fVar 11) aNil)))) (fVar 6)))) fNext) (fExpr (fML opAppend (fVar 4) (aCons (fGet2 (fVar 3) (fTup (aCons (fC (.str "wire")) (aCons (fCall (op1 opLen) (aCons (fVar 4) aNil)) aNil))) (fApp m_gate_sign (aCons (fVar 8) (aCons (fVar 10) aNil)))) aNil))))
section
variable {m : Mem} {xs : List D}
theorem cl_get : (m ++ [some (C.lst xs)])[m.length]? = some (some (.lst xs)) := by simp
theorem cl_ix {i : Int} {d : D} (h : atI xs i = some d) : opIx (m ++ [some (.lst xs)]) (.cel m.length) (.int i) = .ok d (m ++ [some (.lst xs)]) := by
  have e : seqOf (m ++ [some (.lst xs)]) (.cel m.length) = some xs := by
    simp only [seqOf, rlstOf, lstOf, cl_get]
  show (match seqOf (m ++ [some (.lst xs)]) (.cel m.length) with | some xs => _ | none => _) = _
  rw [e]
  dsimp only
  rw [h]
theorem cl_len : opLen (m ++ [some (.lst xs)]) (.cel m.length) = .ok (.int xs.length) (m ++ [some (.lst xs)]) := by
  have e : lenD (m ++ [some (.lst xs)]) (.cel m.length) = some xs.length := by
    have e : seqOf (m ++ [some (.lst xs)]) (.cel m.length) = some xs := by
      simp only [seqOf, rlstOf, lstOf, cl_get]
    show (match seqOf (m ++ [some (.lst xs)]) (.cel m.length) with | some xs => _ | none => _) = _
    rw [e]
  unfold opLen
  rw [e]
theorem cl_cel : celL (m ++ [some (.lst xs)]) (.cel m.length) = some (m.length, xs) := by
  unfold celL
  dsimp only
  rw [cl_get]
theorem cl_app {d : D} (h : xs.length ≤ 1000) : opAppend (m ++ [some (.lst xs)]) (.cel m.length) [d] = .ok .non (m ++ [some (.lst (xs ++ [d]))]) := by
  unfold opAppend
  rw [cl_cel]
  dsimp only
  rw [if_pos (Nat.lt_of_le_of_lt h (by rw [sizeLine_eq]; omega)), cell_set]
end
end LW
namespace LW
open PySem PySem.Spec PyProof.Rows L2 DL
theorem ne_empty {m : Mem} {hs : Hs} : opNeE m (eH hs) (.dk [] []) = .ok (.bl (!hs.isEmpty)) m := by
  cases hs with
  | nil => with_unfolding_all rfl
  | cons p hs => simp [opNeE, dlen, dicOf, eH]
theorem gread_nil {i : Nat} {sig : List Bool} {ws : List Nat} : gread [] i sig ws = ws.map fun w => sig.getD w false := by
  unfold gread
  apply List.ext_getElem?
  intro j
  simp [hget]
theorem d_gstep {m : Mem} {hs : Hs} {sig : List Bool} {g : G} {i : Nat} {z0 z1 z2 z5 z6 z10 z11 z12 z13 : Option D} (hm : Ok m) (hk : GOk g sig.length) (hl : sig.length ≤ 900) :
    ∃ w10 : Option D, xStep [z0, z1, z2, some (eH hs), some (.cel m.length), z5, z6, some (eI i), some (.str (kS g.k)), some (eW g.ws), z10, z11, z12, z13] (m ++ [some (.lst (sig.map eB))]) = .nx [z0, z1, z2, some (eH hs), some (.cel m.length), z5, z6, some (eI i), some (.str (kS g.k)), some (eW g.ws), w10, z11, z12, z13] (m ++ [some (.lst ((sig ++ [hget hs [.inr "wire", .inl sig.length] (gsig g.k (gread hs i sig g.ws))]).map eB))]) := by
  have hok : Ok (m ++ [some (.lst (sig.map eB))]) := ok_app hm (lowL_map fun _ _ => rfl)
  have hwl : g.ws.length ≤ 5000 := by have := hk.l; omega
  have h1 : lcGo (.its (g.ws.map eI)) (tName 5) fYes (fBin opIx (fVar 4) (fVar 5)) (wipeE [z0, z1, z2, some (eH hs), some (.cel m.length), z5, z6, some (eI i), some (.str (kS g.k)), some (eW g.ws), z10, z11, z12, z13] [5]) ((g.ws.map eI).length + 1) 0 [] (m ++ [some (.lst (sig.map eB))]) = .ok ((g.ws.map fun w => sig.getD w false).map eB) (m ++ [some (.lst (sig.map eB))]) := by
    rw [lc_map' (fun d => match d with | .int w => eB (sig.getD w.toNat false) | _ => .non) (by rw [List.length_map, sizeLine_eq]; omega)]
    · rw [List.map_map, List.map_map]
      rfl
    · intro d hd
      obtain ⟨w, hw, rfl⟩ := List.mem_map.mp hd
      refine ⟨_, rfl, rfl, ?_⟩
      refine e_bin (e_var rfl) (e_var rfl) (cl_ix ?_)
      rw [atI_nat, List.getElem?_map]
      have := hk.w w hw
      show (sig[w]?).map eB = some (eB (sig.getD w false))
      rw [List.getD_eq_getElem?_getD, List.getElem?_eq_getElem this]
      rfl
  have h3 : ∃ bs : List Bool, bs = gread hs i sig g.ws ∧ (fIfS (fB (fBin opNeE (fVar 3) fDk)) (fSet 10 (fLc (fEnm (aCons (fVar 10) aNil)) [11, 6] (tTupG 2 (tConsG (tName 11) (tConsG (tName 6) tNilG))) fYes (fGet2 (fVar 3) (fTup (aCons (fC (.str "gate")) (aCons (fVar 7) (aCons (fVar 11) aNil)))) (fVar 6)))) fNext) [z0, z1, z2, some (eH hs), some (.cel m.length), z5, z6, some (eI i), some (.str (kS g.k)), some (eW g.ws), some (.lst ((g.ws.map fun w => sig.getD w false).map eB)), z11, z12, z13] (m ++ [some (.lst (sig.map eB))]) = .nx [z0, z1, z2, some (eH hs), some (.cel m.length), z5, z6, some (eI i), some (.str (kS g.k)), some (eW g.ws), some (.lst (bs.map eB)), z11, z12, z13] (m ++ [some (.lst (sig.map eB))]) := by
    refine ⟨_, rfl, ?_⟩
    cases hs with
    | nil =>
      rw [gread_nil]
      exact e_skip (e_fB (e_bin (e_var rfl) rfl ne_empty))
    | cons p hs =>
      refine e_ifS1 (e_fB (e_bin (e_var rfl) rfl ne_empty)) (e_set (e_lcE (e_enm (e_var rfl) rfl) ?_))
      rw [lc_pairs (f := fun k b => eB (hget (p :: hs) [.inr "gate", .inl i, .inl k] b)) (by rw [List.length_map]; omega) (fun k b hb => ⟨_, rfl, rfl, e_get (hs := p :: hs) (e_var rfl) (e_tup (e_cons e_c (e_cons (e_var rfl) (e_cons (e_var rfl) e_nil))) (lz (by simp))) (e_var rfl) rfl⟩)]
      congr 1
      apply List.ext_getElem?
      intro j
      simp [gread]
      rfl
  obtain ⟨bs, hbs, h3⟩ := h3
  have hg := p_gate_sign (bs := bs) hok hk.k (fun h2 h0 => by
    have := hk.n h2
    rw [hbs] at h0
    have e : (gread hs i sig g.ws).length = g.ws.length := by simp [gread]
    rw [h0] at e
    simp at e
    omega)
  refine ⟨some (.lst (bs.map eB)), ?_⟩
  unfold xStep
  refine e_seq (e_set (e_lc (e_itr (e_var rfl) rfl) h1)) ?_
  refine e_seq h3 ?_
  refine e_expr (a := .non) (e_mL (e_var rfl) cl_cel (e_cons (e_get (hs := hs) (e_var rfl) (e_tup (e_cons e_c (e_cons (e_call1 (e_var rfl) cl_len) e_nil)) (lz (by simp))) (e_app (e_cons (e_var rfl) (e_cons (e_var rfl) e_nil)) hg) rfl) e_nil) ?_)
  rw [cl_app (by rw [List.length_map]; omega), List.length_map, List.map_append, ← hbs]
  rfl
end LW
namespace LW
open PySem PySem.Spec PyProof.Rows L2 DL
theorem b_step_eq : b_step = fSeq (fSet 4 (fLcC (fEnm (aCons (fBin opAdd (fVar 2) (fVar 1)) aNil)) [5, 6] (tTupG 2 (tConsG (tName 5) (tConsG (tName 6) tNilG))) fYes (fGet2 (fVar 3) (fTup (aCons (fC (.str "wire")) (aCons (fVar 5) aNil))) (fCall (op1 opInt) (aCons (fVar 6) aNil))))) (fSeq (fFor (fEnm (aCons (fFld CS FSN "gates" (fVar 0)) aNil)) (tTupG 2 (tConsG (tName 7) (tConsG (tTupG 2 (tConsG (tName 8) (tConsG (tName 9) tNilG))) tNilG))) xStep) (fSeq (fSet 12 (fLc (fEnm (aCons (fFld CS FSN "nexts" (fVar 0)) aNil)) [7, 5] (tTupG 2 (tConsG (tName 7) (tConsG (tName 5) tNilG))) fYes (fGet2 (fVar 3) (fTup (aCons (fC (.str "next")) (aCons (fVar 7) aNil))) (fBin opIx (fVar 4) (fVar 5))))) (fSeq (fSet 13 (fLc (fEnm (aCons (fFld CS FSN "outs" (fVar 0)) aNil)) [7, 5] (tTupG 2 (tConsG (tName 7) (tConsG (tName 5) tNilG))) fYes (fGet2 (fVar 3) (fTup (aCons (fC (.str "out")) (aCons (fVar 7) aNil))) (fBin opIx (fVar 4) (fVar 5))))) (fRet (fTup (aCons (fM1 opJoin isStr (fC (.str "")) (fLc (fItr (fVar 12)) [6] (tName 6) fYes (fCall (op1 opStr) (aCons (fVar 6) aNil)))) (aCons (fM1 opJoin isStr (fC (.str "")) (fLc (fItr (fVar 13)) [6] (tName 6) fYes (fCall (op1 opStr) (aCons (fVar 6) aNil)))) aNil))))))) := rfl
theorem join_lc {env : DL.Env} {m : Mem} {i : Nat} {bs : List Bool} (hl : bs.length ≤ 1000) (hi : env[i]? = some (some (.lst (bs.map eB)))) (h6 : ∀ d, ((wipeE env [6]).set 6 (some d))[6]? = some (some d)) : fM1 opJoin isStr (fC (.str "")) (fLc (fItr (fVar i)) [6] (tName 6) fYes (fCall (op1 opStr) (aCons (fVar 6) aNil))) env m = .ok (.str (bitS bs)) m := by
  have h : lcGo (.its (bs.map eB)) (tName 6) fYes (fCall (op1 opStr) (aCons (fVar 6) aNil)) (wipeE env [6]) ((bs.map eB).length + 1) 0 [] m = .ok (bs.map sg) m := by
    rw [lc_map' (fun d => match d with | .int w => sg (decide (w = 1)) | _ => .non) (by rw [List.length_map]; exact lz hl)]
    · rw [List.map_map]
      congr 1
      exact List.map_congr_left fun b _ => by cases b <;> rfl
    · intro d hd
      obtain ⟨b, hb, rfl⟩ := List.mem_map.mp hd
      refine ⟨_, rfl, rfl, ?_⟩
      refine (e_call1 (e_var (h6 _)) str_eB).trans ?_
      cases b <;> rfl
  exact e_m1 e_c rfl (e_lc (e_itr (e_var hi) rfl) h) (opJoin_sg (by omega))
end LW
namespace LW
open PySem PySem.Spec PyProof.Rows L2 DL
theorem gates_len {hs : Hs} : ∀ (gs : List G) (i : Nat) (sig : List Bool), (gates hs i gs sig).length = sig.length + gs.length
  | [], _, _ => rfl
  | g :: gs, i, sig => by
    rw [gates, gates_len gs]
    simp
    omega
theorem sigs_len {n : Nt} {now given : List Bool} {hs : Hs} : (sigs n now given hs).length = given.length + now.length + n.gs.length := by
  rw [sigs, gates_len, List.length_mapIdx, List.length_append]
/-- the comprehension of next or out words -/
theorem lc_after {m : Mem} {env0 : DL.Env} {hs : Hs} {sig : List Bool} {ws : List Nat} {key : Str} (hw : ∀ w ∈ ws, w < sig.length) (hl : ws.length ≤ 5000)
    (h3 : ∀ a b, ((env0.set 7 (some a)).set 5 (some b))[3]? = some (some (eH hs))) (h4 : ∀ a b, ((env0.set 7 (some a)).set 5 (some b))[4]? = some (some (.cel m.length))) (h7 : ∀ a b, ((env0.set 7 (some a)).set 5 (some b))[7]? = some (some a)) (h5 : ∀ a b, ((env0.set 7 (some a)).set 5 (some b))[5]? = some (some b)) :
    lcGo (.its (pairsFrom 0 (ws.map eI))) (tTupG 2 (tConsG (tName 7) (tConsG (tName 5) tNilG))) fYes (fGet2 (fVar 3) (fTup (aCons (fC (.str key)) (aCons (fVar 7) aNil))) (fBin opIx (fVar 4) (fVar 5))) env0 ((ws.map eI).length + 1) 0 [] (m ++ [some (.lst (sig.map eB))]) = .ok ((ws.mapIdx fun i w => hget hs [.inr key, .inl i] (sig.getD w false)).map eB) (m ++ [some (.lst (sig.map eB))]) := by
  rw [lc_pairs (f := fun i w => eB (hget hs [.inr key, .inl i] (sig.getD w false))) hl (fun i w hx => ⟨_, rfl, rfl, e_get (hs := hs) (e_var (h3 _ _)) (e_tup (e_cons e_c (e_cons (e_var (h7 _ _)) e_nil)) (lz (by simp))) (e_bin (e_var (h4 _ _)) (e_var (h5 _ _)) (cl_ix (by
    rw [atI_nat, List.getElem?_map]
    have := hw w (List.mem_of_getElem? hx)
    rw [List.getD_eq_getElem?_getD, List.getElem?_eq_getElem this]
    rfl))) rfl⟩)]
  congr 1
  apply List.ext_getElem?
  intro j
  simp
  rfl
end LW
namespace LW
open PySem PySem.Spec PyProof.Rows L2 DL
theorem pairs_eG {gs : List G} {i : Nat} {d : D} (h : (pairsFrom 0 (gs.map eG))[i]? = some d) : ∃ g, gs[i]? = some g ∧ d = .tup [eI i, eG g] := by
  rw [pairs_get, List.getElem?_map, Nat.zero_add] at h
  cases hg : gs[i]? with
  | none => rw [hg] at h; cases h
  | some g =>
    rw [hg] at h
    cases h
    exact ⟨g, rfl, rfl⟩
theorem p_step {m : Mem} {n : Nt} {now given : List Bool} {hs : Hs} (hm : Ok m) (h : NOk n) (h1 : now.length = n.first.length) (h2 : given.length = n.ins) :
    m_step m [eObj n, .str (bitS now), .str (bitS given), eH hs] = .ok (.tup [.str (bitS (stepF n now given hs).1), .str (bitS (stepF n now given hs).2)]) m := by
  have b1 := h.i
  have b2 := h.f
  have b3 := h.g
  have b4 := h.nl
  have b5 := h.ol
  have c1 : lcGo (.its (pairsFrom 0 ((given ++ now).map sg))) (tTupG 2 (tConsG (tName 5) (tConsG (tName 6) tNilG))) fYes (fGet2 (fVar 3) (fTup (aCons (fC (.str "wire")) (aCons (fVar 5) aNil))) (fCall (op1 opInt) (aCons (fVar 6) aNil))) (wipeE (startE 14 [eObj n, .str (bitS now), .str (bitS given), eH hs]) [5, 6]) (((given ++ now).map sg).length + 1) 0 [] m = .ok (((given ++ now).mapIdx fun i b => hget hs [.inr "wire", .inl i] b).map eB) m := by
    rw [lc_pairs (f := fun i b => eB (hget hs [.inr "wire", .inl i] b)) (by rw [List.length_append]; omega) (fun i b hx => ⟨_, rfl, rfl, e_get (hs := hs) (e_var rfl) (e_tup (e_cons e_c (e_cons (e_var rfl) e_nil)) (lz (by simp))) (e_call1 (e_var rfl) int_sg) rfl⟩)]
    congr 1
    apply List.ext_getElem?
    intro j
    simp
    rfl
  obtain ⟨e', m', hf, ⟨sig, w7, w8, w9, w10, hsg, hsl, rfl, rfl⟩⟩ := for_inv (its := pairsFrom 0 (n.gs.map eG)) (tg := tTupG 2 (tConsG (tName 7) (tConsG (tTupG 2 (tConsG (tName 8) (tConsG (tName 9) tNilG))) tNilG))) (fb := xStep)
    (fun i env m1 => ∃ (sig : List Bool) (w7 w8 w9 w10 : Option D), gates hs i (n.gs.drop i) sig = sigs n now given hs ∧ sig.length = n.own + i ∧ env = [some (eObj n), some (.str (bitS now)), some (.str (bitS given)), some (eH hs), some (.cel m.length), none, none, w7, w8, w9, w10, none, none, none] ∧ m1 = m ++ [some (.lst (sig.map eB))])
    (fun i d env m1 hd hI => by
      obtain ⟨sig, w7, w8, w9, w10, hsg, hsl, rfl, rfl⟩ := hI
      obtain ⟨g, hg, rfl⟩ := pairs_eG hd
      have hlt := (List.getElem?_eq_some_iff.mp hg).1
      have hok := h.gs i g hg
      rw [← hsl] at hok
      obtain ⟨v10, hx⟩ := d_gstep (hs := hs) (sig := sig) (i := i) (z0 := some (eObj n)) (z1 := some (.str (bitS now))) (z2 := some (.str (bitS given))) (z5 := none) (z6 := none) (z10 := w10) (z11 := none) (z12 := none) (z13 := none) hm hok (by rw [hsl, Nt.own]; omega)
      refine ⟨_, rfl, _, _, .inl hx, _, _, _, _, _, ?_, ?_, rfl, rfl⟩
      · rw [← hsg, List.drop_eq_getElem_cons hlt, (List.getElem?_eq_some_iff.mp hg).2, gates]
      · simp [hsl]
        omega) ((pairsFrom 0 (n.gs.map eG)).length + 1) 0 [some (eObj n), some (.str (bitS now)), some (.str (bitS given)), some (eH hs), some (.cel m.length), none, none, none, none, none, none, none, none, none] (m ++ [some (.lst (((given ++ now).mapIdx fun i b => hget hs [.inr "wire", .inl i] b).map eB))]) (by omega) (by omega) ⟨_, none, none, none, none, rfl, by rw [List.length_mapIdx, List.length_append, Nt.own]; omega, rfl, rfl⟩
  rw [pairs_len, List.length_map] at hsg hf
  rw [pairs_len, List.length_map] at hsl
  have hsig : sig = sigs n now given hs := by
    rw [← hsg, List.drop_length]
    rfl
  have hsw : sig.length = n.wires := by rw [hsl, Nt.own, Nt.wires]
  have c2 := lc_after (m := m) (hs := hs) (sig := sig) (key := "next") (env0 := wipeE [some (eObj n), some (.str (bitS now)), some (.str (bitS given)), some (eH hs), some (.cel m.length), none, none, w7, w8, w9, w10, none, none, none] [7, 5]) (ws := n.nx) (by rw [hsw]; exact h.nw) (by omega) (fun _ _ => rfl) (fun _ _ => rfl) (fun _ _ => rfl) (fun _ _ => rfl)
  have c3 := lc_after (m := m) (hs := hs) (sig := sig) (key := "out") (env0 := wipeE [some (eObj n), some (.str (bitS now)), some (.str (bitS given)), some (eH hs), some (.cel m.length), none, none, w7, w8, w9, w10, none, some (.lst ((n.nx.mapIdx fun i w => hget hs [.inr "next", .inl i] (sig.getD w false)).map eB)), none] [7, 5]) (ws := n.ou) (by rw [hsw]; exact h.ow) (by omega) (fun _ _ => rfl) (fun _ _ => rfl) (fun _ _ => rfl) (fun _ _ => rfl)
  refine fn_rt rfl (m' := m ++ [some (.lst (sig.map eB))]) (d := .tup [.str (bitS (stepF n now given hs).1), .str (bitS (stepF n now given hs).2)]) ?_ (leave_app hm rfl)
  rw [b_step_eq]
  refine e_seq (e_set (e_lcCE (e_enm (e_bin (e_var rfl) (e_var rfl) (add_bits (by omega))) (by rw [show itrOf m (.str (bitS (given ++ now))) = .ok (.its (chars (bitS (given ++ now)))) m from rfl, chars_bits])) c1)) ?_
  refine e_seq (e_forE (e_enm (e_fld (e_var rfl) fld_gates) rfl) (by rw [List.length_map]; exact hf)) ?_
  refine e_seq (e_set (e_lcE (e_enm (e_fld (e_var rfl) fld_nexts) rfl) c2)) ?_
  refine e_seq (e_set (e_lcE (e_enm (e_fld (e_var rfl) fld_outs) rfl) c3)) ?_
  have d1 : (stepF n now given hs).1 = n.nx.mapIdx fun i w => hget hs [.inr "next", .inl i] (sig.getD w false) := by rw [hsig]; rfl
  have d2 : (stepF n now given hs).2 = n.ou.mapIdx fun i w => hget hs [.inr "out", .inl i] (sig.getD w false) := by rw [hsig]; rfl
  rw [d1, d2]
  exact e_ret (e_tup (e_cons (join_lc (by rw [List.length_mapIdx]; omega) rfl (fun _ => rfl)) (e_cons (join_lc (by rw [List.length_mapIdx]; omega) rfl (fun _ => rfl)) e_nil)) (lz (by simp)))
end LW
namespace LW
open PySem PySem.Spec PyProof.Rows L2 DL
def yGate : FS := fSeq (fAsg (fBin opIx (fBin opIx (fVar 0) (fC (.int 2))) (fVar 6)) (tTupG 2 (tConsG (tName 7) (tConsG (tName 8) tNilG)))) (fSeq (fSet 9 (fLc (fRng1 (aCons (fCall (op1 opLen) (aCons (fVar 8) aNil)) aNil)) [10] (tName 10) fYes (fGet2 (fVar 3) (fTup (aCons (fC (.str "gate")) (aCons (fVar 6) (aCons (fVar 10) aNil)))) (fBin opIx (fVar 4) (fBin opIx (fVar 8) (fVar 10)))))) (fSeq (fSet 11 (fIf (fB (fBin opEq (fVar 7) (fC (.str "and")))) (fCall (op1 opMin1) (aCons (fBin opAdd (fVar 9) (fLst (aCons (fC (.int 1)) aNil))) aNil)) (fIf (fB (fBin opEq (fVar 7) (fC (.str "or")))) (fCall (op1 opMax1) (aCons (fBin opAdd (fVar 9) (fLst (aCons (fC (.int 0)) aNil))) aNil)) (fBin opSub (fC (.int 1)) (fBin opIx (fVar 9) (fC (.int 0))))))) (fExpr (fML opAppend (fVar 4) (aCons (fGet2 (fVar 3) (fTup (aCons (fC (.str "wire")) (aCons (fBin opAdd (fBin opAdd (fBin opIx (fVar 0) (fC (.int 0))) (fCall (op1 opLen) (aCons (fVar 1) aNil))) (fVar 6)) aNil))) (fVar 11)) aNil)))))
def yNow : FS := fExpr (fML opAppend (fVar 4) (aCons (fGet2 (fVar 3) (fTup (aCons (fC (.str "wire")) (aCons (fBin opAdd (fBin opIx (fVar 0) (fC (.int 0))) (fVar 5)) aNil))) (fCall (op1 opInt) (aCons (fBin opIx (fVar 1) (fVar 5)) aNil))) aNil))
def yOut (i : Int) (key : Str) : FE := fLc (fRng1 (aCons (fCall (op1 opLen) (aCons (fBin opIx (fVar 0) (fC (.int i))) aNil)) aNil)) [5] (tName 5) fYes (fBin opIx (fC (.str "01")) (fGet2 (fVar 3) (fTup (aCons (fC (.str key)) (aCons (fVar 5) aNil))) (fBin opIx (fVar 4) (fBin opIx (fBin opIx (fVar 0) (fC (.int i))) (fVar 5)))))
theorem b_beat_eq : b__law_beat = fSeq (fSet 4 (fLcC (fRng1 (aCons (fBin opIx (fVar 0) (fC (.int 0))) aNil)) [5] (tName 5) fYes (fGet2 (fVar 3) (fTup (aCons (fC (.str "wire")) (aCons (fVar 5) aNil))) (fCall (op1 opInt) (aCons (fBin opIx (fVar 2) (fVar 5)) aNil))))) (fSeq (fFor (fRng1 (aCons (fCall (op1 opLen) (aCons (fVar 1) aNil)) aNil)) (tName 5) yNow) (fSeq (fFor (fRng1 (aCons (fCall (op1 opLen) (aCons (fBin opIx (fVar 0) (fC (.int 2))) aNil)) aNil)) (tName 6) yGate) (fSeq (fSet 12 (yOut 3 "next")) (fRet (fTup (aCons (fM1 opJoin isStr (fC (.str "")) (fVar 12)) (aCons (fM1 opJoin isStr (fC (.str "")) (yOut 4 "out")) aNil))))))) := rfl
end LW
namespace LW
open PySem PySem.Spec PyProof.Rows L2 DL
/-- a comprehension over a range, each item a function of the number -/
theorem lc_rng {k : Nat} {f : Nat → D} {tg : TgD} {ft : FT} {fe : FE} {env0 : DL.Env} {m : Mem} (hz : k ≤ 1000)
    (h : ∀ i, i < k → ∃ e1, tg (eI i) env0 m = some e1 ∧ ft e1 m = .ok true m ∧ fe e1 m = .ok (f i) m) :
    lcGo (.its (rangeD 0 k)) tg ft fe env0 ((rangeD 0 k).length + 1) 0 [] m = .ok ((List.range k).map f) m := by
  rw [lc_map' (fun d => match d with | .int w => f w.toNat | _ => .non) (by rw [rangeD_len]; exact lz hz)]
  · congr 1
    apply List.ext_getElem?
    intro i
    rw [List.getElem?_map, List.getElem?_map]
    by_cases hi : i < k
    · rw [rangeD_get hi, List.getElem?_range hi]
      show some (f (((0 : Int) + (i : Nat)).toNat)) = some (f i)
      congr 2
      omega
    · rw [List.getElem?_eq_none (by rw [rangeD_len]; omega), List.getElem?_eq_none (by rw [List.length_range]; omega)]
      rfl
  · intro d hd
    obtain ⟨i, hi, rfl⟩ := rangeD_mem hd
    exact h i hi
/-- a loop over a range -/
theorem for_rng {k : Nat} {tg : TgD} {fb : FS} {env : DL.Env} {m : Mem} (I : Nat → DL.Env → Mem → Prop) (h0 : I 0 env m)
    (step : ∀ i env m, i < k → I i env m → ∃ e1, tg (eI i) env m = some e1 ∧ ∃ e2 m2, fb e1 m = .nx e2 m2 ∧ I (i + 1) e2 m2) :
    ∃ e' m', forGo (.its (rangeD 0 k)) tg fb ((rangeD 0 k).length + 1) 0 env m = .nx e' m' ∧ I k e' m' := by
  obtain ⟨e', m', h1, h2⟩ := for_inv (its := rangeD 0 k) (tg := tg) (fb := fb) I (fun i d env m hd hI => by
    have hi := (List.getElem?_eq_some_iff.mp hd).1
    rw [rangeD_len] at hi
    rw [rangeD_get hi] at hd
    obtain ⟨e1, a, e2, m2, b, c⟩ := step i env m hi hI
    have e : d = eI i := by
      cases hd
      show D.int _ = D.int _
      congr 1
      omega
    subst e
    exact ⟨e1, a, e2, m2, .inl b, c⟩) ((rangeD 0 k).length + 1) 0 env m (by omega) (by omega) h0
  rw [rangeD_len] at h2
  exact ⟨e', m', h1, h2⟩
theorem ix_bits {m : Mem} {bs : List Bool} {i : Nat} (hl : bs.length ≤ 1000) (h : i < bs.length) : opIx m (.str (bitS bs)) (eI i) = .ok (sg (bs.getD i false)) m := by
  have e : (bitS bs).length ≤ sizeLine := by rw [bitS_len]; exact lz hl
  have e2 : atI (bitS bs).cps.toList (i : Int) = some (bitC (bs.getD i false)) := by
    rw [bitS_list, atI_nat, List.getElem?_map, List.getD_eq_getElem?_getD, List.getElem?_eq_getElem h]
    rfl
  simp only [opIx, eI, e, if_true, e2]
  rfl
theorem ix_eW {m : Mem} {ws : List Nat} {i : Nat} (h : i < ws.length) : opIx m (eW ws) (eI i) = .ok (eI (ws.getD i 0)) m := by
  refine ix_tup ?_
  rw [atI_nat, List.getElem?_map, List.getD_eq_getElem?_getD, List.getElem?_eq_getElem h]
  rfl
def bI (b : Bool) : Int := if b then 1 else 0
theorem intsD_bits : ∀ bs : List Bool, intsD (bs.map eB) = some (bs.map bI)
  | [] => rfl
  | b :: bs => by
    show (intsD (bs.map eB)).map _ = _
    rw [intsD_bits bs]
    rfl
theorem minL_bits (bs : List Bool) : minL ((bs ++ [true]).map bI) = bI (bs.all _root_.id) := by
  obtain ⟨h1, h2⟩ := minL_mem (ns := (bs ++ [true]).map bI) (by simp)
  obtain ⟨b, hb, e⟩ := List.mem_map.mp h1
  rw [← e]
  cases hall : bs.all _root_.id with
  | true =>
    rw [List.all_eq_true] at hall
    rcases List.mem_append.mp hb with hb | hb
    · rw [show b = true from hall b hb]
    · rw [List.mem_singleton.mp hb]
  | false =>
    rw [List.all_eq_false] at hall
    obtain ⟨c, hc, hc2⟩ := hall
    have : c = false := by simpa using hc2
    subst this
    have := h2 (bI false) (List.mem_map_of_mem (List.mem_append_left _ hc))
    rw [← e] at this
    cases b
    · rfl
    · exact absurd this (by decide)
theorem maxL_bits (bs : List Bool) : maxL ((bs ++ [false]).map bI) = bI (bs.any _root_.id) := by
  obtain ⟨h1, h2⟩ := maxL_mem (ns := (bs ++ [false]).map bI) (by simp)
  obtain ⟨b, hb, e⟩ := List.mem_map.mp h1
  rw [← e]
  cases hall : bs.any _root_.id with
  | false =>
    rw [List.any_eq_false] at hall
    rcases List.mem_append.mp hb with hb | hb
    · have := hall b hb
      rw [show b = false by simpa using this]
    · rw [List.mem_singleton.mp hb]
  | true =>
    rw [List.any_eq_true] at hall
    obtain ⟨c, hc, hc2⟩ := hall
    have : c = true := by simpa using hc2
    subst this
    have := h2 (bI true) (List.mem_map_of_mem (List.mem_append_left _ hc))
    rw [← e] at this
    cases b
    · exact absurd this (by decide)
    · rfl
theorem min_bits {m : Mem} {bs : List Bool} : opMin1 m (.lst (bs.map eB ++ [.int 1])) = .ok (eB (bs.all _root_.id)) m := by
  have e : bs.map eB ++ [.int 1] = (bs ++ [true]).map eB := by rw [List.map_append]; rfl
  rw [e]
  show (match intsD ((bs ++ [true]).map eB) with | some ns => _ | none => _) = _
  rw [intsD_bits]
  dsimp only
  rw [if_pos (by simp), minL_bits]
  rfl
theorem max_bits {m : Mem} {bs : List Bool} : opMax1 m (.lst (bs.map eB ++ [.int 0])) = .ok (eB (bs.any _root_.id)) m := by
  have e : bs.map eB ++ [.int 0] = (bs ++ [false]).map eB := by rw [List.map_append]; rfl
  rw [e]
  show (match intsD ((bs ++ [false]).map eB) with | some ns => _ | none => _) = _
  rw [intsD_bits]
  dsimp only
  rw [if_pos (by simp), maxL_bits]
  rfl
theorem sub_bit {m : Mem} {b : Bool} : opSub m (.int 1) (eB b) = .ok (eB (!b)) m := by cases b <;> rfl
theorem ix_gs {m : Mem} {gs : List G} {i : Nat} {g : G} (h : gs[i]? = some g) : opIx m (.tup (gs.map eG)) (eI i) = .ok (eG g) m := by
  refine ix_tup ?_
  rw [atI_nat, List.getElem?_map, h]
  rfl
end LW
namespace LW
open PySem PySem.Spec PyProof.Rows L2 DL
theorem len_bits {m : Mem} {bs : List Bool} (h : bs.length ≤ 1000) : opLen m (.str (bitS bs)) = .ok (eI bs.length) m := by
  rw [len_str (by rw [bitS_len]; exact h), bitS_len]
  rfl
theorem ix_01b {m : Mem} {b : Bool} : opIx m (.str "01") (eB b) = .ok (sg b) m := by
  have e : (("01" : Str).length) ≤ sizeLine := Nat.le_trans (by decide : _ ≤ 1000) (by rw [sizeLine_eq]; omega)
  cases b with
  | false => simp only [opIx, eB, e, if_true]; rfl
  | true => simp only [opIx, eB, e, if_true]; rfl
theorem d_sign {env : DL.Env} {m : Mem} {k : Nat} {bs : List Bool} (hk : k ≤ 2) (hb : k = 2 → bs ≠ []) (hl : bs.length ≤ 900) (h7 : env[7]? = some (some (.str (kS k)))) (h9 : env[9]? = some (some (.lst (bs.map eB)))) :
    fIf (fB (fBin opEq (fVar 7) (fC (.str "and")))) (fCall (op1 opMin1) (aCons (fBin opAdd (fVar 9) (fLst (aCons (fC (.int 1)) aNil))) aNil)) (fIf (fB (fBin opEq (fVar 7) (fC (.str "or")))) (fCall (op1 opMax1) (aCons (fBin opAdd (fVar 9) (fLst (aCons (fC (.int 0)) aNil))) aNil)) (fBin opSub (fC (.int 1)) (fBin opIx (fVar 9) (fC (.int 0))))) env m = .ok (eB (gsig k bs)) m := by
  match k, hk with
  | 0, _ => exact e_if1 (e_fB (e_bin (e_var h7) e_c (by rw [eq_str]; rfl))) (e_call1 (e_bin (e_var h9) (e_lst (e_cons e_c e_nil) (lz (by simp))) (add_lists (by simp; omega))) min_bits)
  | 1, _ => exact e_if0 (e_fB (e_bin (e_var h7) e_c (by rw [eq_str]; rfl))) (e_if1 (e_fB (e_bin (e_var h7) e_c (by rw [eq_str]; rfl))) (e_call1 (e_bin (e_var h9) (e_lst (e_cons e_c e_nil) (lz (by simp))) (add_lists (by simp; omega))) max_bits))
  | 2, _ =>
    cases bs with
    | nil => exact absurd rfl (hb rfl)
    | cons b bs => exact e_if0 (e_fB (e_bin (e_var h7) e_c (by rw [eq_str]; rfl))) (e_if0 (e_fB (e_bin (e_var h7) e_c (by rw [eq_str]; rfl))) (e_bin e_c (e_bin (e_var h9) e_c (ix_lst (at0 _ _))) sub_bit))
theorem gread_len {hs : Hs} {i : Nat} {sig : List Bool} {ws : List Nat} : (gread hs i sig ws).length = ws.length := by simp [gread]
theorem d_gbeat {m : Mem} {hs : Hs} {sig now given : List Bool} {g : G} {n : Nt} {i : Nat} {z5 z7 z8 z9 z10 z11 z12 : Option D} (hk : GOk g sig.length) (hl : sig.length ≤ 900) (hg : n.gs[i]? = some g) (hlen : sig.length = n.ins + now.length + i) :
    yGate [some (eNet n), some (.str (bitS now)), some (.str (bitS given)), some (eH hs), some (.cel m.length), z5, some (eI i), z7, z8, z9, z10, z11, z12] (m ++ [some (.lst (sig.map eB))]) = .nx [some (eNet n), some (.str (bitS now)), some (.str (bitS given)), some (eH hs), some (.cel m.length), z5, some (eI i), some (.str (kS g.k)), some (eW g.ws), some (.lst ((gread hs i sig g.ws).map eB)), z10, some (eB (gsig g.k (gread hs i sig g.ws))), z12] (m ++ [some (.lst ((sig ++ [hget hs [.inr "wire", .inl sig.length] (gsig g.k (gread hs i sig g.ws))]).map eB))]) := by
  have hwl : g.ws.length ≤ 1000 := by have := hk.l; omega
  unfold yGate
  refine e_seq (e_asg (e_bin (e_bin (e_var rfl) e_c nx2) (e_var rfl) (ix_gs hg)) rfl) ?_
  refine e_seq (e_set (e_lc (es := (gread hs i sig g.ws).map eB) (m2 := m ++ [some (.lst (sig.map eB))]) (e_rng (n := g.ws.length) (by omega) (e_call1 (e_var rfl) len_eW)) ?_)) ?_
  · rw [lc_rng (f := fun k => eB (hget hs [.inr "gate", .inl i, .inl k] (sig.getD (g.ws.getD k 0) false))) hwl (fun k hkl => ⟨_, rfl, rfl, e_get (hs := hs) (e_var rfl) (e_tup (e_cons e_c (e_cons (e_var rfl) (e_cons (e_var rfl) e_nil))) (lz (by simp))) (e_bin (e_var rfl) (e_bin (e_var rfl) (e_var rfl) (ix_eW hkl)) (cl_ix (by
      rw [atI_nat, List.getElem?_map]
      have e : g.ws.getD k 0 = g.ws[k] := by rw [List.getD_eq_getElem?_getD, List.getElem?_eq_getElem hkl]; rfl
      have := hk.w (g.ws.getD k 0) (by rw [e]; exact List.getElem_mem hkl)
      rw [List.getD_eq_getElem?_getD (l := sig), List.getElem?_eq_getElem this]
      rfl))) rfl⟩)]
    congr 1
    apply List.ext_getElem?
    intro j
    unfold gread
    by_cases hj : j < g.ws.length
    · rw [List.getElem?_map, List.getElem?_range hj, List.getElem?_map, List.getElem?_mapIdx, List.getElem?_eq_getElem hj, Option.map_some, Option.map_some, Option.map_some, List.getD_eq_getElem?_getD (l := g.ws), List.getElem?_eq_getElem hj]
      rfl
    · rw [List.getElem?_eq_none (by simp; omega), List.getElem?_eq_none (by simp; omega)]
  refine e_seq (e_set (d_sign hk.k (fun h2 h0 => by
    have := hk.n h2
    have e := gread_len (hs := hs) (i := i) (sig := sig) (ws := g.ws)
    rw [h0] at e
    simp at e
    omega) (by have := hk.l; rw [gread_len]; omega) rfl rfl)) ?_
  refine e_expr (a := .non) (e_mL (e_var rfl) cl_cel (e_cons (e_get (hs := hs) (e_var rfl) (e_tup (e_cons e_c (e_cons (e_bin (e_bin (e_bin (e_var rfl) e_c nx0) (e_call1 (e_var rfl) (len_bits (by omega))) add_nat) (e_var rfl) add_nat) e_nil)) (lz (by simp))) (e_var rfl) rfl) e_nil) ?_)
  rw [cl_app (by rw [List.length_map]; omega), List.map_append, hlen]
  rfl
theorem d_out {m : Mem} {n : Nt} {hs : Hs} {sig : List Bool} {i : Int} {ws : List Nat} {key : Str} {z1 z2 z5 z6 z7 z8 z9 z10 z11 z12 : Option D} (hix : ∀ m, opIx m (eNet n) (.int i) = .ok (eW ws) m) (hw : ∀ w ∈ ws, w < sig.length) (hl : ws.length ≤ 1000) :
    yOut i key [some (eNet n), z1, z2, some (eH hs), some (.cel m.length), z5, z6, z7, z8, z9, z10, z11, z12] (m ++ [some (.lst (sig.map eB))]) = .ok (.lst ((ws.mapIdx fun i w => hget hs [.inr key, .inl i] (sig.getD w false)).map sg)) (m ++ [some (.lst (sig.map eB))]) := by
  unfold yOut
  refine e_lc (e_rng (n := ws.length) (by omega) (e_call1 (e_bin (e_var rfl) e_c (hix _)) len_eW)) ?_
  rw [lc_rng (f := fun k => sg (hget hs [.inr key, .inl k] (sig.getD (ws.getD k 0) false))) hl (fun k hkl => ⟨_, rfl, rfl, e_bin e_c (e_get (hs := hs) (e_var rfl) (e_tup (e_cons e_c (e_cons (e_var rfl) e_nil)) (lz (by simp))) (e_bin (e_var rfl) (e_bin (e_bin (e_var rfl) e_c (hix _)) (e_var rfl) (ix_eW hkl)) (cl_ix (by
      rw [atI_nat, List.getElem?_map]
      have e : ws.getD k 0 = ws[k] := by rw [List.getD_eq_getElem?_getD, List.getElem?_eq_getElem hkl]; rfl
      have := hw (ws.getD k 0) (by rw [e]; exact List.getElem_mem hkl)
      rw [List.getD_eq_getElem?_getD (l := sig), List.getElem?_eq_getElem this]
      rfl))) rfl) ix_01b⟩)]
  congr 1
  apply List.ext_getElem?
  intro j
  by_cases hj : j < ws.length
  · rw [List.getElem?_map, List.getElem?_range hj, List.getElem?_map, List.getElem?_mapIdx, List.getElem?_eq_getElem hj, Option.map_some, Option.map_some, Option.map_some, List.getD_eq_getElem?_getD (l := ws), List.getElem?_eq_getElem hj]
    rfl
  · rw [List.getElem?_eq_none (by simp; omega), List.getElem?_eq_none (by simp; omega)]
theorem p_beat {m : Mem} {n : Nt} {now given : List Bool} {hs : Hs} (hm : Ok m) (h : NOk n) (h1 : now.length = n.first.length) (h2 : given.length = n.ins) :
    m__law_beat m [eNet n, .str (bitS now), .str (bitS given), eH hs] = .ok (.tup [.str (bitS (stepF n now given hs).1), .str (bitS (stepF n now given hs).2)]) m := by
  have b1 := h.i
  have b2 := h.f
  have b3 := h.g
  have b4 := h.nl
  have b5 := h.ol
  have c1 : lcGo (.its (rangeD 0 n.ins)) (tName 5) fYes (fGet2 (fVar 3) (fTup (aCons (fC (.str "wire")) (aCons (fVar 5) aNil))) (fCall (op1 opInt) (aCons (fBin opIx (fVar 2) (fVar 5)) aNil))) (wipeE [some (eNet n), some (.str (bitS now)), some (.str (bitS given)), some (eH hs), none, none, none, none, none, none, none, none, none] [5]) ((rangeD 0 n.ins).length + 1) 0 [] m = .ok ((given.mapIdx fun i b => hget hs [.inr "wire", .inl i] b).map eB) m := by
    rw [lc_rng (f := fun k => eB (hget hs [.inr "wire", .inl k] (given.getD k false))) (by omega) (fun k hkl => ⟨_, rfl, rfl, e_get (hs := hs) (e_var rfl) (e_tup (e_cons e_c (e_cons (e_var rfl) e_nil)) (lz (by simp))) (e_call1 (e_bin (e_var rfl) (e_var rfl) (ix_bits (by omega) (by omega))) int_sg) rfl⟩)]
    congr 1
    apply List.ext_getElem?
    intro j
    by_cases hj : j < n.ins
    · rw [List.getElem?_map, List.getElem?_range hj, List.getElem?_map, List.getElem?_mapIdx, List.getElem?_eq_getElem (by omega), Option.map_some, Option.map_some, Option.map_some, List.getD_eq_getElem?_getD (l := given), List.getElem?_eq_getElem (by omega)]
      rfl
    · rw [List.getElem?_eq_none (by simp; omega), List.getElem?_eq_none (by simp; omega)]
  obtain ⟨e2, m2, hf2, ⟨y5, rfl, rfl⟩⟩ := for_rng (k := now.length) (tg := tName 5) (fb := yNow) (env := [some (eNet n), some (.str (bitS now)), some (.str (bitS given)), some (eH hs), some (.cel m.length), none, none, none, none, none, none, none, none]) (m := m ++ [some (.lst ((given.mapIdx fun i b => hget hs [.inr "wire", .inl i] b).map eB))])
    (fun i env m1 => ∃ z5 : Option D, env = [some (eNet n), some (.str (bitS now)), some (.str (bitS given)), some (eH hs), some (.cel m.length), z5, none, none, none, none, none, none, none] ∧ m1 = m ++ [some (.lst (((given ++ now.take i).mapIdx fun i b => hget hs [.inr "wire", .inl i] b).map eB))])
    ⟨none, rfl, by simp⟩ (fun i env m1 hi hI => by
      obtain ⟨z5, rfl, rfl⟩ := hI
      refine ⟨_, rfl, _, _, e_expr (a := .non) (e_mL (e_var rfl) cl_cel (e_cons (e_get (hs := hs) (e_var rfl) (e_tup (e_cons e_c (e_cons (e_bin (e_bin (e_var rfl) e_c nx0) (e_var rfl) add_nat) e_nil)) (lz (by simp))) (e_call1 (e_bin (e_var rfl) (e_var rfl) (ix_bits (by omega) hi)) int_sg) rfl) e_nil) (cl_app (by simp; omega))), some (eI i), rfl, ?_⟩
      congr 4
      rw [List.take_succ, List.getElem?_eq_getElem hi, List.getD_eq_getElem?_getD, List.getElem?_eq_getElem hi]
      show _ = List.map eB (List.mapIdx (fun i b => hget hs [.inr "wire", .inl i] b) (given ++ (now.take i ++ [now[i]])))
      rw [← List.append_assoc, List.mapIdx_concat, List.map_append (l₂ := [_])]
      have e : (given ++ now.take i).length = n.ins + i := by rw [List.length_append, List.length_take]; omega
      rw [e]
      rfl)
  rw [List.take_length] at hf2
  obtain ⟨e', m', hf, ⟨sig, w5, w7, w8, w9, w10, w11, hsg, hsl, rfl, rfl⟩⟩ := for_rng (k := n.gs.length) (tg := tName 6) (fb := yGate) (env := [some (eNet n), some (.str (bitS now)), some (.str (bitS given)), some (eH hs), some (.cel m.length), y5, none, none, none, none, none, none, none]) (m := m ++ [some (.lst (((given ++ now).mapIdx fun i b => hget hs [.inr "wire", .inl i] b).map eB))])
    (fun i env m1 => ∃ (sig : List Bool) (w6 w7 w8 w9 w10 w11 : Option D), gates hs i (n.gs.drop i) sig = sigs n now given hs ∧ sig.length = n.own + i ∧ env = [some (eNet n), some (.str (bitS now)), some (.str (bitS given)), some (eH hs), some (.cel m.length), y5, w6, w7, w8, w9, w10, w11, none] ∧ m1 = m ++ [some (.lst (sig.map eB))])
    ⟨_, none, none, none, none, none, none, rfl, by rw [List.length_mapIdx, List.length_append, Nt.own]; omega, rfl, rfl⟩ (fun i env m1 hi hI => by
      obtain ⟨sig, w6, w7, w8, w9, w10, w11, hsg, hsl, rfl, rfl⟩ := hI
      have hg : n.gs[i]? = some n.gs[i] := List.getElem?_eq_getElem hi
      have hok := h.gs i _ hg
      rw [← hsl] at hok
      have hown : n.own = n.ins + now.length := by rw [Nt.own, h1]
      refine ⟨_, rfl, _, _, d_gbeat (given := given) hok (by omega) hg (by omega), _, _, _, _, _, _, _, ?_, ?_, rfl, rfl⟩
      · rw [← hsg, List.drop_eq_getElem_cons hi, gates]
      · simp [hsl]
        omega)
  have hsig : sig = sigs n now given hs := by
    rw [← hsg, List.drop_length]
    rfl
  have hsw : sig.length = n.wires := by rw [hsl, Nt.own, Nt.wires]
  refine fn_rt rfl (m' := m ++ [some (.lst (sig.map eB))]) (d := .tup [.str (bitS (stepF n now given hs).1), .str (bitS (stepF n now given hs).2)]) ?_ (leave_app hm rfl)
  rw [b_beat_eq]
  refine e_seq (e_set (e_lcC (e_rng (by omega) (e_bin (e_var rfl) e_c nx0)) c1)) ?_
  refine e_seq (e_for (e_rng (by omega) (e_call1 (e_var rfl) (len_bits (by omega)))) hf2) ?_
  refine e_seq (e_for (e_rng (by omega) (e_call1 (e_bin (e_var rfl) e_c nx2) len_gs)) hf) ?_
  refine e_seq (e_set (d_out (ws := n.nx) (fun _ => nx3) (by rw [hsw]; exact h.nw) (by omega))) ?_
  have d1 : (stepF n now given hs).1 = n.nx.mapIdx fun i w => hget hs [.inr "next", .inl i] (sig.getD w false) := by rw [hsig]; rfl
  have d2 : (stepF n now given hs).2 = n.ou.mapIdx fun i w => hget hs [.inr "out", .inl i] (sig.getD w false) := by rw [hsig]; rfl
  rw [d1, d2]
  exact e_ret (e_tup (e_cons (e_m1 e_c rfl (e_var rfl) (opJoin_sg (by rw [List.length_mapIdx]; omega))) (e_cons (e_m1 e_c rfl (d_out (ws := n.ou) (fun _ => nx4) (by rw [hsw]; exact h.ow) (by omega)) (opJoin_sg (by rw [List.length_mapIdx]; omega))) e_nil)) (lz (by simp)))
end LW
namespace LW
open PySem PySem.Spec PyProof.Rows L2 DL
def eS (bs : List Bool) : D := .str (bitS bs)
theorem eS_nil : eS [] = .str "" := rfl
theorem low_eS {k : Nat} {bs : List Bool} : (eS bs).low k = true := rfl
theorem low_eSs {k : Nat} {ws : List (List Bool)} : lowL k (ws.map eS) = true := lowL_map fun _ _ => rfl
theorem low_cS {k : Nat} {ws : List (List Bool)} : (C.lst (ws.map eS)).low k = true := low_eSs
theorem e_dt {env : DL.Env} {m : Mem} : fDt env m = .ok (eH []) m := rfl
/-- a loop over mapped items -/
theorem for_map {α : Type} {xs : List α} {e : α → D} {tg : TgD} {fb : FS} {env : DL.Env} {m : Mem} (I : Nat → DL.Env → Mem → Prop) (h0 : I 0 env m)
    (step : ∀ i x env m, xs[i]? = some x → I i env m → ∃ e1, tg (e x) env m = some e1 ∧ ∃ e2 m2, fb e1 m = .nx e2 m2 ∧ I (i + 1) e2 m2) :
    ∃ e' m', forGo (.its (xs.map e)) tg fb ((xs.map e).length + 1) 0 env m = .nx e' m' ∧ I xs.length e' m' := by
  obtain ⟨e', m', h1, h2⟩ := for_inv (its := xs.map e) (tg := tg) (fb := fb) I (fun i d env m hd hI => by
    rw [List.getElem?_map] at hd
    cases hx : xs[i]? with
    | none => rw [hx] at hd; cases hd
    | some x =>
      rw [hx] at hd
      cases hd
      obtain ⟨e1, a, e2, m2, b, c⟩ := step i x env m hx hI
      exact ⟨e1, a, e2, m2, .inl b, c⟩) ((xs.map e).length + 1) 0 env m (by omega) (by omega) h0
  rw [List.length_map] at h2
  exact ⟨e', m', h1, h2⟩
theorem items_zp {m : Mem} {xs ys : List D} : Src.items m (.zp (.its xs) (.its ys)) = some (zipD xs ys) := rfl
theorem for_zp {xs ys : List D} {tg : TgD} {fb : FS} : ∀ (n i : Nat) (env : DL.Env) (m : Mem), forGo (.zp (.its xs) (.its ys)) tg fb n i env m = forGo (.its (zipD xs ys)) tg fb n i env m
  | 0, _, _, _ => rfl
  | n + 1, i, env, m => by
    unfold forGo
    rw [show Src.items m (Src.its (zipD xs ys)) = some (zipD xs ys) from rfl, items_zp]
    have ih := fun i env m => for_zp (tg := tg) (fb := fb) (xs := xs) (ys := ys) n i env m
    simp only [ih]
theorem fuel_zp {m : Mem} {xs ys : List D} : Src.fuel m (.zp (.its xs) (.its ys)) = (zipD xs ys).length + 1 := rfl
theorem zip_maps {α : Type} (f g : α → D) : ∀ ps : List α, zipD (ps.map f) (ps.map g) = ps.map fun p => .tup [f p, g p]
  | [] => rfl
  | p :: ps => by
    rw [List.map_cons, List.map_cons, zipD, zip_maps f g ps]
    rfl
theorem e_forZ {env : DL.Env} {m m1 m2 : Mem} {a b : D} {xs ys : List D} {fa fb : FE} {tg : TgD} {f : FS} {s : S} (ha : fa env m = .ok a m1) (hb : fb env m1 = .ok b m2) (h1 : itrOf m2 a = .ok (.its xs) m2) (h2 : itrOf m2 b = .ok (.its ys) m2) (hl : forGo (.its (zipD xs ys)) tg f ((zipD xs ys).length + 1) 0 env m2 = s) : fFor (fZip (aCons fa (aCons fb aNil))) tg f env m = s := by
  unfold fFor fZip
  rw [e_cons ha (e_cons hb e_nil), R.bind]
  unfold zipOf
  dsimp only
  rw [h1, R.bind, h2, R.bind, R.bindS, fuel_zp, for_zp, hl]
/-- the run of a net, word by word -/
abbrev Ps := List (List Bool × Hs)
def runF (n : Nt) (now : List Bool) (ps : Ps) : List Bool × List (List Bool) := ps.foldl (fun r p => ((stepF n r.1 p.1 p.2).1, r.2 ++ [(stepF n r.1 p.1 p.2).2])) (now, [])
theorem runF_snoc {n : Nt} {now : List Bool} {ps : Ps} {p : List Bool × Hs} : runF n now (ps ++ [p]) = ((stepF n (runF n now ps).1 p.1 p.2).1, (runF n now ps).2 ++ [(stepF n (runF n now ps).1 p.1 p.2).2]) := by
  unfold runF
  rw [List.foldl_append]
  rfl
theorem runF_take {n : Nt} {now : List Bool} {ps : Ps} {p : List Bool × Hs} {i : Nat} (h : ps[i]? = some p) : runF n now (ps.take (i + 1)) = ((stepF n (runF n now (ps.take i)).1 p.1 p.2).1, (runF n now (ps.take i)).2 ++ [(stepF n (runF n now (ps.take i)).1 p.1 p.2).2]) := by
  rw [List.take_succ, h]
  exact runF_snoc
theorem stepF_len {n : Nt} {now given : List Bool} {hs : Hs} (h : NOk n) : (stepF n now given hs).1.length = n.first.length ∧ (stepF n now given hs).2.length = n.ou.length := by
  constructor
  · show (n.nx.mapIdx _).length = _
    rw [List.length_mapIdx]
    exact h.nl
  · show (n.ou.mapIdx _).length = _
    rw [List.length_mapIdx]
theorem runF_len {n : Nt} (h : NOk n) {now : List Bool} (hn : now.length = n.first.length) (ps : Ps) : (runF n now ps).1.length = n.first.length ∧ (runF n now ps).2.length = ps.length ∧ ∀ w ∈ (runF n now ps).2, w.length = n.ou.length := by
  have key : ∀ (ps : Ps) (r : List Bool × List (List Bool)), r.1.length = n.first.length → (∀ w ∈ r.2, w.length = n.ou.length) → (ps.foldl (fun r p => ((stepF n r.1 p.1 p.2).1, r.2 ++ [(stepF n r.1 p.1 p.2).2])) r).1.length = n.first.length ∧ (ps.foldl (fun r p => ((stepF n r.1 p.1 p.2).1, r.2 ++ [(stepF n r.1 p.1 p.2).2])) r).2.length = r.2.length + ps.length ∧ ∀ w ∈ (ps.foldl (fun r p => ((stepF n r.1 p.1 p.2).1, r.2 ++ [(stepF n r.1 p.1 p.2).2])) r).2, w.length = n.ou.length := by
    intro ps
    induction ps with
    | nil => intro r hr hw; exact ⟨hr, rfl, hw⟩
    | cons p ps ih =>
      intro r hr hw
      rw [List.foldl_cons]
      obtain ⟨a, b, c⟩ := ih ((stepF n r.1 p.1 p.2).1, r.2 ++ [(stepF n r.1 p.1 p.2).2]) (stepF_len h).1 (by
        intro w hw'
        rcases List.mem_append.mp hw' with hw' | hw'
        · exact hw w hw'
        · rw [List.mem_singleton.mp hw']
          exact (stepF_len h).2)
      refine ⟨a, ?_, c⟩
      rw [b]
      simp
      omega
  obtain ⟨a, b, c⟩ := key ps (now, []) hn (by simp)
  exact ⟨a, by rw [runF, b]; simp, c⟩
theorem p_run_on {m : Mem} {n : Nt} {ps : Ps} (hm : Ok m) (h : NOk n) (hl : ps.length ≤ 900) (hw : ∀ p ∈ ps, p.1.length = n.ins) :
    m_run_on m [eObj n, .lst (ps.map fun p => eS p.1), .lst (ps.map fun p => eH p.2)] = .ok (.lst ((runF n n.first ps).2.map eS)) m := by
  refine fn_rt rfl (m' := m ++ [none]) (d := .lst ((runF n n.first ps).2.map eS)) ?_ (leave_app hm low_eSs)
  obtain ⟨e', m', hf, ⟨w5, w6, w7, rfl, rfl⟩⟩ := for_map (xs := ps) (e := fun p => .tup [eS p.1, eH p.2]) (tg := tTupG 2 (tConsG (tName 5) (tConsG (tName 6) tNilG))) (fb := fSeq (fAsg (fApp m_step (aCons (fVar 0) (aCons (fVar 3) (aCons (fVar 5) (aCons (fVar 6) aNil))))) (tTupG 2 (tConsG (tName 3) (tConsG (tName 7) tNilG)))) (fExpr (fML opAppend (fVar 4) (aCons (fVar 7) aNil))))
    (env := [some (eObj n), some (.lst (ps.map fun p => eS p.1)), some (.lst (ps.map fun p => eH p.2)), some (eS n.first), some (.cel m.length), none, none, none]) (m := m ++ [some (.lst [])])
    (fun i env m1 => ∃ w5 w6 w7 : Option D, env = [some (eObj n), some (.lst (ps.map fun p => eS p.1)), some (.lst (ps.map fun p => eH p.2)), some (eS (runF n n.first (ps.take i)).1), some (.cel m.length), w5, w6, w7] ∧ m1 = m ++ [some (.lst ((runF n n.first (ps.take i)).2.map eS))])
    ⟨none, none, none, rfl, rfl⟩ (fun i p env m1 hp hI => by
      obtain ⟨w5, w6, w7, rfl, rfl⟩ := hI
      have hlt := (List.getElem?_eq_some_iff.mp hp).1
      obtain ⟨l1, l2, _⟩ := runF_len h rfl (ps.take i)
      have hst := p_step (hs := p.2) (m := m ++ [some (.lst ((runF n n.first (ps.take i)).2.map eS))]) (ok_app hm low_cS) h l1 (hw p (List.mem_of_getElem? hp))
      refine ⟨_, rfl, _, _, e_seq (e_asg (e_app (e_cons (e_var rfl) (e_cons (e_var rfl) (e_cons (e_var rfl) (e_cons (e_var rfl) e_nil)))) hst) rfl) (e_expr (a := .non) (e_mL (e_var rfl) cl_cel (e_cons (e_var rfl) e_nil) (cl_app (by rw [List.length_map, l2, List.length_take]; omega)))), some (eS p.1), some (eH p.2), some (eS (stepF n (runF n n.first (ps.take i)).1 p.1 p.2).2), ?_, ?_⟩
      · rw [runF_take hp]
        rfl
      · rw [runF_take hp, List.map_append]
        rfl)
  rw [List.take_length] at hf
  unfold b_run_on
  refine e_seq (e_par (e_fld (e_var rfl) fld_first) (e_lstC e_nil (Nat.zero_le _))) ?_
  refine e_seq (e_forZ (e_var rfl) (e_var rfl) rfl rfl (by rw [zip_maps]; exact hf)) ?_
  refine e_ret ?_
  unfold fFz
  rw [e_var rfl, R.bind]
  unfold fzD
  dsimp only
  rw [cell_get]
  dsimp only
  rw [cell_set]
  rfl
theorem p_last {m : Mem} {n : Nt} {ws : List (List Bool)} {d : D} (hm : Ok m) (h : NOk n) (hi : itrOf m d = .ok (.its (ws.map eS)) m) (hl : ws.length ≤ 900) (hw : ∀ w ∈ ws, w.length = n.ins) :
    m_last_words m [eObj n, d] = .ok (.tup [eS (runF n n.first (ws.map fun w => (w, []))).1, eS ((runF n n.first (ws.map fun w => (w, []))).2.getLastD [])]) m := by
  refine fn_rt rfl (m' := m) (d := .tup [eS (runF n n.first (ws.map fun w => (w, []))).1, eS ((runF n n.first (ws.map fun w => (w, []))).2.getLastD [])]) ?_ (leave_same hm rfl)
  obtain ⟨e', m', hf, ⟨w4, rfl, rfl⟩⟩ := for_map (xs := ws) (e := eS) (tg := tName 4) (fb := fAsg (fApp m_step (aCons (fVar 0) (aCons (fVar 2) (aCons (fVar 4) (aCons fDt aNil))))) (tTupG 2 (tConsG (tName 2) (tConsG (tName 3) tNilG))))
    (env := [some (eObj n), some d, some (eS n.first), some (eS []), none]) (m := m)
    (fun i env m1 => ∃ w4 : Option D, env = [some (eObj n), some d, some (eS (runF n n.first ((ws.map fun w => (w, ([] : Hs))).take i)).1), some (eS ((runF n n.first ((ws.map fun w => (w, ([] : Hs))).take i)).2.getLastD [])), w4] ∧ m1 = m)
    ⟨none, rfl, rfl⟩ (fun i w env m1 hp hI => by
      obtain ⟨w4, rfl, rfl⟩ := hI
      have hp' : (ws.map fun w => (w, ([] : Hs)))[i]? = some (w, []) := by rw [List.getElem?_map, hp]; rfl
      obtain ⟨l1, l2, _⟩ := runF_len h rfl ((ws.map fun w => (w, ([] : Hs))).take i)
      have hst := p_step (hs := []) (m := m1) hm h l1 (hw w (List.mem_of_getElem? hp))
      refine ⟨_, rfl, _, _, e_asg (e_app (e_cons (e_var rfl) (e_cons (e_var rfl) (e_cons (e_var rfl) (e_cons e_dt e_nil)))) hst) rfl, some (eS w), ?_, rfl⟩
      rw [runF_take hp']
      simp only [List.getLastD_concat]
      rfl)
  have e : (ws.map fun w => (w, ([] : Hs))).take ws.length = ws.map fun w => (w, []) := by
    rw [show ws.length = (ws.map fun w => (w, ([] : Hs))).length by rw [List.length_map], List.take_length]
  rw [e] at hf
  unfold b_last_words
  refine e_seq (e_par (e_fld (e_var rfl) fld_first) e_c) ?_
  refine e_seq (e_for (e_itr (e_var rfl) hi) hf) ?_
  exact e_ret (e_tup (e_cons (e_var rfl) (e_cons (e_var rfl) e_nil)) (lz (by simp)))
theorem p_run_law {m : Mem} {n : Nt} {ws : List (List Bool)} (hm : Ok m) (h : NOk n) (hl : ws.length ≤ 900) (hw : ∀ w ∈ ws, w.length = n.ins) :
    m__law_run m [eNet n, .lst (ws.map eS), .lst (List.replicate ws.length (.lst []))] = .ok (.lst [.lst ((runF n n.first (ws.map fun w => (w, []))).2.map eS), eS (runF n n.first (ws.map fun w => (w, []))).1]) m := by
  refine fn_rt rfl (m' := m ++ [none]) (d := .lst [.lst ((runF n n.first (ws.map fun w => (w, []))).2.map eS), eS (runF n n.first (ws.map fun w => (w, []))).1]) ?_ (leave_app hm (low_cons low_eSs rfl))
  obtain ⟨e', m', hf, ⟨w5, w6, rfl, rfl⟩⟩ := for_rng (k := ws.length) (tg := tName 5) (fb := fSeq (fAsg (fApp m__law_beat (aCons (fVar 0) (aCons (fVar 3) (aCons (fBin opIx (fVar 1) (fVar 5)) (aCons (fCall (op1 opDict0) (aCons (fBin opIx (fVar 2) (fVar 5)) aNil)) aNil))))) (tTupG 2 (tConsG (tName 3) (tConsG (tName 6) tNilG)))) (fExpr (fML opAppend (fVar 4) (aCons (fVar 6) aNil))))
    (env := [some (eNet n), some (.lst (ws.map eS)), some (.lst (List.replicate ws.length (.lst []))), some (eS n.first), some (.cel m.length), none, none]) (m := m ++ [some (.lst [])])
    (fun i env m1 => ∃ w5 w6 : Option D, env = [some (eNet n), some (.lst (ws.map eS)), some (.lst (List.replicate ws.length (.lst []))), some (eS (runF n n.first ((ws.map fun w => (w, ([] : Hs))).take i)).1), some (.cel m.length), w5, w6] ∧ m1 = m ++ [some (.lst ((runF n n.first ((ws.map fun w => (w, ([] : Hs))).take i)).2.map eS))])
    ⟨none, none, rfl, rfl⟩ (fun i env m1 hi hI => by
      obtain ⟨w5, w6, rfl, rfl⟩ := hI
      have hp : ws[i]? = some ws[i] := List.getElem?_eq_getElem hi
      have hp' : (ws.map fun w => (w, ([] : Hs)))[i]? = some (ws[i], []) := by rw [List.getElem?_map, hp]; rfl
      obtain ⟨l1, l2, _⟩ := runF_len h rfl ((ws.map fun w => (w, ([] : Hs))).take i)
      have hst := p_beat (hs := []) (m := m ++ [some (.lst ((runF n n.first ((ws.map fun w => (w, ([] : Hs))).take i)).2.map eS))]) (ok_app hm low_cS) h l1 (hw ws[i] (List.getElem_mem hi))
      refine ⟨_, rfl, _, _, e_seq (e_asg (e_app (e_cons (e_var rfl) (e_cons (e_var rfl) (e_cons (e_bin (e_var rfl) (e_var rfl) (ix_lst (by rw [atI_nat, List.getElem?_map, hp]; rfl))) (e_cons (e_call1 (e_bin (e_var rfl) (e_var rfl) (ix_lst (by rw [atI_nat, List.getElem?_replicate, if_pos hi]))) rfl) e_nil)))) hst) rfl) (e_expr (a := .non) (e_mL (e_var rfl) cl_cel (e_cons (e_var rfl) e_nil) (cl_app (by rw [List.length_map, l2, List.length_take, List.length_map]; omega)))), some (eI i), some (eS (stepF n (runF n n.first ((ws.map fun w => (w, ([] : Hs))).take i)).1 ws[i] []).2), ?_, ?_⟩
      · rw [runF_take hp']
        rfl
      · rw [runF_take hp', List.map_append]
        rfl)
  have e : (ws.map fun w => (w, ([] : Hs))).take ws.length = ws.map fun w => (w, []) := by
    rw [show ws.length = (ws.map fun w => (w, ([] : Hs))).length by rw [List.length_map], List.take_length]
  rw [e] at hf
  unfold b__law_run
  refine e_seq (e_par (e_bin (e_var rfl) e_c nx1) (e_lstC e_nil (Nat.zero_le _))) ?_
  refine e_seq (e_for (e_rng (by omega) (e_call1 (e_var rfl) (by rw [len_lst, List.length_map]))) hf) ?_
  refine e_ret (e_lst (e_cons (m1 := m ++ [none]) ?_ (e_cons (e_var rfl) e_nil)) (lz (by simp)))
  unfold fFz
  rw [e_var rfl, R.bind]
  unfold fzD
  dsimp only
  rw [cell_get]
  dsimp only
  rw [cell_set]
  rfl
theorem p_latch {m : Mem} {n : Nt} {ps : Ps} {hu : D} (hm : Ok m) (h : NOk n) (hl : ps.length ≤ 900) (hw : ∀ p ∈ ps, p.1.length = n.ins) (h1 : m_need_net m [eObj n] = .ok .non m) (h2 : m_need_words m [eObj n, .lst (ps.map fun p => eS p.1), .int 0] = .ok .non m) (h3 : m_need_hurts m [eObj n, hu, eI ps.length] = .ok (.lst (ps.map fun p => eH p.2)) m) :
    m_latch_behind m [eObj n, .lst (ps.map fun p => eS p.1), hu] = .ok (eS (runF n n.first ps).1) m := by
  refine fn_rt rfl (m' := m) (d := eS (runF n n.first ps).1) ?_ (leave_same hm rfl)
  obtain ⟨e', m', hf, ⟨w4, w5, rfl, rfl⟩⟩ := for_map (xs := ps) (e := fun p => .tup [eS p.1, eH p.2]) (tg := tTupG 2 (tConsG (tName 4) (tConsG (tName 5) tNilG))) (fb := fSet 3 (fBin opIx (fApp m_step (aCons (fVar 0) (aCons (fVar 3) (aCons (fVar 4) (aCons (fVar 5) aNil))))) (fC (.int 0))))
    (env := [some (eObj n), some (.lst (ps.map fun p => eS p.1)), some hu, some (eS n.first), none, none]) (m := m)
    (fun i env m1 => ∃ w4 w5 : Option D, env = [some (eObj n), some (.lst (ps.map fun p => eS p.1)), some hu, some (eS (runF n n.first (ps.take i)).1), w4, w5] ∧ m1 = m)
    ⟨none, none, rfl, rfl⟩ (fun i p env m1 hp hI => by
      obtain ⟨w4, w5, rfl, rfl⟩ := hI
      obtain ⟨l1, l2, _⟩ := runF_len h rfl (ps.take i)
      have hst := p_step (hs := p.2) (m := m1) hm h l1 (hw p (List.mem_of_getElem? hp))
      refine ⟨_, rfl, _, _, e_set (e_bin (e_app (e_cons (e_var rfl) (e_cons (e_var rfl) (e_cons (e_var rfl) (e_cons (e_var rfl) e_nil)))) hst) e_c (ix_tup (at0 _ _))), some (eS p.1), some (eH p.2), ?_, rfl⟩
      rw [runF_take hp]
      rfl)
  rw [List.take_length] at hf
  unfold b_latch_behind
  refine e_seq (e_expr (e_app (e_cons (e_var rfl) e_nil) h1)) ?_
  refine e_seq (e_expr (e_app (e_cons (e_var rfl) (e_cons (e_var rfl) (e_cons e_c e_nil))) h2)) ?_
  refine e_seq (e_set (e_fld (e_var rfl) fld_first)) ?_
  refine e_seq (e_forZ (e_var rfl) (e_app (e_cons (e_var rfl) (e_cons (e_var rfl) (e_cons (e_call1 (e_var rfl) (by rw [len_lst, List.length_map]; rfl)) e_nil))) h3) rfl rfl (by rw [zip_maps]; exact hf)) ?_
  exact e_ret (e_var rfl)
theorem p_run {m : Mem} {n : Nt} {ps : Ps} {hu : D} (hm : Ok m) (h : NOk n) (hl : ps.length ≤ 900) (hw : ∀ p ∈ ps, p.1.length = n.ins) (h1 : m_need_net m [eObj n] = .ok .non m) (h2 : m_need_words m [eObj n, .lst (ps.map fun p => eS p.1), .int 0] = .ok .non m) (h3 : m_need_hurts m [eObj n, hu, eI ps.length] = .ok (.lst (ps.map fun p => eH p.2)) m) :
    m_run m [eObj n, .lst (ps.map fun p => eS p.1), hu] = .ok (.lst ((runF n n.first ps).2.map eS)) m := by
  refine fn_rt rfl (m' := m) (d := .lst ((runF n n.first ps).2.map eS)) ?_ (leave_same hm low_eSs)
  unfold b_run
  refine e_seq (e_expr (e_app (e_cons (e_var rfl) e_nil) h1)) ?_
  refine e_seq (e_expr (e_app (e_cons (e_var rfl) (e_cons (e_var rfl) (e_cons e_c e_nil))) h2)) ?_
  exact e_ret (e_app (e_cons (e_var rfl) (e_cons (e_var rfl) (e_cons (e_app (e_cons (e_var rfl) (e_cons (e_var rfl) (e_cons (e_call1 (e_var rfl) (by rw [len_lst, List.length_map]; rfl)) e_nil))) h3) e_nil))) (p_run_on hm h hl hw))
end LW
namespace LW
open PySem PySem.Spec PyProof.Rows L2 DL
section
variable {env : DL.Env} {m m1 m2 m3 : Mem} {fa fb fc : FE} {a b c : Int} {p q : Int → Int → Bool} {r : Bool}
theorem e_chain (ha : fa env m = .ok (.int a) m1) (hb : fb env m1 = .ok (.int b) m2) (h : p a b = true) (hc : fc env m2 = .ok (.int c) m3) (h2 : q b c = r) : fChain (cmpI p) (cmpI q) fa fb fc env m = .ok (.bl r) m3 := by
  unfold fChain
  rw [ha, R.bind, hb, R.bind]
  unfold cmpI
  dsimp only
  rw [h, R.bind]
  dsimp only
  rw [hc, R.bind]
  dsimp only
  rw [h2]
theorem e_chain0 (ha : fa env m = .ok (.int a) m1) (hb : fb env m1 = .ok (.int b) m2) (h : p a b = false) : fChain (cmpI p) (cmpI q) fa fb fc env m = .ok (.bl false) m2 := by
  unfold fChain
  rw [ha, R.bind, hb, R.bind]
  unfold cmpI
  dsimp only
  rw [h, R.bind]
end
theorem p_is_list {m : Mem} {d : D} {t : String} (hm : Ok m) (ht : tyD m d = some t) : m_is_list m [d] = .ok (.bl (["list", "tuple"].any fun T => subTy t T)) m := by
  refine fn_rt rfl (d := .bl _) ?_ (leave_same hm rfl)
  unfold b_is_list
  exact e_ret (e_f1 (e_var rfl) (isi_of ht))
theorem p_is_word_of {m : Mem} {bs : List Bool} {k : Nat} (hm : Ok m) (h : bs.length ≤ 24) : m_is_word_of m [eS bs, eI k] = .ok (.bl (decide (bs.length = k))) m := by
  refine fn_rt rfl (d := .bl (decide (bs.length = k))) ?_ (leave_same hm rfl)
  unfold b_is_word_of
  refine e_ret ((e_and (q := decide (bs.length = k)) (e_app (e_cons (e_var rfl) e_nil) (word_bits hm h)) (e_bin (e_call1 (e_var rfl) (len_bits (by omega))) (e_var rfl) ?_)).trans ?_)
  · show opEq m (.int _) (.int _) = _
    have e : (((bs.length : Nat) : Int) = ((k : Nat) : Int)) ↔ bs.length = k := by omega
    simp [opEq, eqD, e]
  · rw [Bool.true_and]
/-- words, as list or tuple -/
structure Wds (m : Mem) (d : D) (ws : List (List Bool)) : Prop where
  ty : tyD m d = some "list" ∨ tyD m d = some "tuple"
  it : itrOf m d = .ok (.its (ws.map eS)) m
  ln : opLen m d = .ok (eI ws.length) m
theorem wds_lst {m : Mem} {ws : List (List Bool)} : Wds m (.lst (ws.map eS)) ws := ⟨.inl rfl, rfl, by rw [len_lst, List.length_map]; rfl⟩
theorem wds_tup {m : Mem} {ws : List (List Bool)} : Wds m (.tup (ws.map eS)) ws := ⟨.inr rfl, rfl, by rw [len_tup, List.length_map]; rfl⟩
theorem Wds.isl {m : Mem} {d : D} {ws : List (List Bool)} (h : Wds m d ws) (hm : Ok m) : m_is_list m [d] = .ok (.bl true) m := by
  rcases h.ty with e | e
  · rw [p_is_list hm e]
    rfl
  · rw [p_is_list hm e]
    rfl
theorem p_need_words {m : Mem} {d : D} {ws : List (List Bool)} {n : Nt} {least : Nat} (hm : Ok m) (h : NOk n) (hd : Wds m d ws) (h1 : least ≤ ws.length) (h2 : ws.length ≤ 200) (hw : ∀ w ∈ ws, w.length = n.ins) : m_need_words m [eObj n, d, eI least] = .ok .non m := by
  have hl : lcGo (.its (ws.map eS)) (tName 3) fYes (fApp m_is_word_of (aCons (fVar 3) (aCons (fFld CS FSN "ins" (fVar 0)) aNil))) (wipeE (startE 4 [eObj n, d, eI least]) [3]) ((ws.map eS).length + 1) 0 [] m = .ok (List.replicate (ws.map eS).length (.bl true)) m := by
    refine lc_all ?_ fun x hx => ?_
    · rw [List.length_map]
      exact lz (by omega)
    obtain ⟨w, hw', rfl⟩ := List.mem_map.mp hx
    have hi := h.i
    have hwl := hw w hw'
    refine ⟨_, rfl, rfl, e_app (e_cons (e_var rfl) (e_cons (e_fld (e_var rfl) fld_ins) e_nil)) ?_⟩
    rw [p_is_word_of hm (by omega), decide_eq_true hwl]
  refine fn_nx rfl (m' := m) (e := startE 4 [eObj n, d, eI least]) ?_ (leave_same hm rfl)
  unfold b_need_words
  refine e_seq (e_skip (e_tor0 (e_tnot (e_trb (e_app (e_cons (e_var rfl) e_nil) (hd.isl hm)))) (e_tnot (e_fB (e_chain (r := true) (e_var rfl) (e_call1 (e_var rfl) hd.ln) (decide_eq_true (by omega)) e_c (decide_eq_true (by omega))))))) ?_
  exact e_skip (e_tnot (e_trb (e_call1 (e_lc (e_itr (e_var rfl) hd.it) hl) (opAll_rep _))))
theorem p_need_sign {m : Mem} {s : Nat} (hm : Ok m) (hs : s ≤ 1) : m_need_sign m [eI s] = .ok .non m := by
  refine fn_nx rfl (m' := m) (e := startE 1 [eI s]) ?_ (leave_same hm rfl)
  unfold b_need_sign
  have e : m_is_between m [eI s, .int 0, .int 1] = .ok (.bl true) m := by
    rw [show eI s = .int (s : Int) from rfl, p_is_between hm, decide_eq_true (by omega), decide_eq_true (by omega)]
    rfl
  exact e_skip (e_tnot (e_trb (e_app (e_cons (e_var rfl) (e_cons e_c (e_cons e_c e_nil))) e)))
def resF (n : Nt) (ws : List (List Bool)) : D := .tup [eS (runF n n.first (ws.map fun w => (w, []))).1, eS ((runF n n.first (ws.map fun w => (w, []))).2.getLastD [])]
theorem p_extreme {m : Mem} {d : D} {ws : List (List Bool)} {n : Nt} {s : Nat} (hm : Ok m) (h : NOk n) (hs : s ≤ 1) (hd : Wds m d ws) (h1 : 1 ≤ ws.length) (h2 : ws.length ≤ 200) (hw : ∀ w ∈ ws, w.length = n.ins) : m_extreme m [eObj n, d, eI s] = .ok (resF (endN s n) ws) m := by
  refine fn_rt rfl (m' := m) (d := resF (endN s n) ws) ?_ (leave_same hm rfl)
  unfold b_extreme
  refine e_seq (e_expr (e_app (e_cons (e_var rfl) e_nil) (p_need_net hm))) ?_
  refine e_seq (e_expr (e_app (e_cons (e_var rfl) (e_cons (e_var rfl) (e_cons e_c e_nil))) (p_need_words (least := 1) hm h hd h1 h2 hw))) ?_
  refine e_seq (e_expr (e_app (e_cons (e_var rfl) e_nil) (p_need_sign hm hs))) ?_
  exact e_ret (e_app (e_cons (e_app (e_cons (e_var rfl) (e_cons (e_var rfl) e_nil)) (p_without hs hm h)) (e_cons (e_var rfl) e_nil)) (p_last hm (h.endN hs) hd.it (by omega) hw))
theorem low_resF {k : Nat} {n : Nt} {ws : List (List Bool)} : (resF n ws).low k = true := rfl
theorem p_asked3 {m : Mem} {d : D} {ws : List (List Bool)} {n : Nt} {s : Nat} {b : Bool} (hm : Ok m) (h : NOk n) (hs : s ≤ 1) (hd : Wds m d ws) (h1 : 1 ≤ ws.length) (h2 : ws.length ≤ 200) (hw : ∀ w ∈ ws, w.length = n.ins) : m__law_asked m [.int 3, .lst [eObj n, d, eI s], .bl b] = .ok (.lst [.str "told", resF (endN s n) ws]) m := by
  refine fn_rt rfl (d := .lst [.str "told", resF (endN s n) ws]) ?_ (leave_same hm (lowD_told low_resF))
  unfold b__law_asked
  have x0 : opIx m (.lst [eObj n, d, eI s]) (.int 0) = .ok (eObj n) m := ix_lst (at0 _ _)
  have x1 : opIx m (.lst [eObj n, d, eI s]) (.int 1) = .ok d m := ix_lst (at1 _ _ _)
  have x2 : opIx m (.lst [eObj n, d, eI s]) (.int 2) = .ok (eI s) m := ix_lst (at2 _ _ _ _)
  have he := p_extreme hm h hs hd h1 h2 hw
  have g : ∀ e : DL.Env, e = startE 5 [.int 3, .lst [eObj n, d, eI s], .bl b] → fIfS (fTr (fVar 2)) (fSet 3 (fAppK m_extreme [2, 1, 0] (aCons (fBin opIx (fVar 1) (fC (.int 2))) (aCons (fBin opIx (fVar 1) (fC (.int 1))) (aCons (fBin opIx (fVar 1) (fC (.int 0))) aNil))))) (fSet 3 (fApp m_extreme (aCons (fBin opIx (fVar 1) (fC (.int 0))) (aCons (fBin opIx (fVar 1) (fC (.int 1))) (aCons (fBin opIx (fVar 1) (fC (.int 2))) aNil))))) e m = .nx (e.set 3 (some (resF (endN s n) ws))) m := by
    intro e he'
    subst he'
    cases b
    · exact e_ifS0 (e_trb (e_var rfl)) (e_set (e_app (e_cons (e_bin (e_var rfl) e_c x0) (e_cons (e_bin (e_var rfl) e_c x1) (e_cons (e_bin (e_var rfl) e_c x2) e_nil))) he))
    · exact e_ifS1 (e_trb (e_var rfl)) (e_set (e_appK (e_cons (e_bin (e_var rfl) e_c x2) (e_cons (e_bin (e_var rfl) e_c x1) (e_cons (e_bin (e_var rfl) e_c x0) e_nil))) he))
  refine e_seq (e_try (e_ifS0 (e_fB (e_bin (e_var rfl) e_c (ne_lit (by decide)))) (e_ifS0 (e_fB (e_bin (e_var rfl) e_c (ne_lit (by decide)))) (e_ifS0 (e_fB (e_bin (e_var rfl) e_c (ne_lit (by decide)))) (g _ rfl))))) ?_
  exact e_ret (e_lst (e_cons e_c (e_cons (e_var rfl) e_nil)) (lz (by simp)))
theorem words_of {k : Nat} : ∀ (ds : List D), (∀ d ∈ ds, ∃ w : List Bool, w.length = k ∧ d = eS w) → ∃ ws : List (List Bool), ds = ws.map eS ∧ ∀ w ∈ ws, w.length = k
  | [], _ => ⟨[], rfl, by simp⟩
  | d :: ds, h => by
    obtain ⟨ws, rfl, hw⟩ := words_of ds fun x hx => h x (List.mem_cons_of_mem _ hx)
    obtain ⟨w, h1, rfl⟩ := h d List.mem_cons_self
    refine ⟨w :: ws, rfl, fun x hx => ?_⟩
    rcases List.mem_cons.mp hx with rfl | hx
    · exact h1
    · exact hw x hx
theorem lc_words {j c k i : Nat} {base m : Mem} {env0 : DL.Env} {n : Nt} (hb : Ok base) (hj : j < base.length) (h : Bx j c base m) (hn : c + 24 * k < 900000) (hk : k ≤ 1000) (hi : n.ins ≤ 24)
    (e0 : ∀ d, (env0.set i (some d))[0]? = some (some (.cel j))) (e1 : ∀ d, (env0.set i (some d))[1]? = some (some (eNet n))) :
    ∃ (ws : List (List Bool)) (m' : Mem), ws.length = k ∧ (∀ w ∈ ws, w.length = n.ins) ∧ lcGo (.its (rangeD 0 k)) (tName i) fYes (fApp m__law_word (aCons (fVar 0) (aCons (fBin opIx (fVar 1) (fC (.int 0))) aNil))) env0 ((rangeD 0 k).length + 1) 0 [] m = .ok (ws.map eS) m' ∧ Bx j (c + 24 * k) base m' := by
  obtain ⟨out, m', h1, h2, h3, h4⟩ := lc_box (c := 24) (its := rangeD 0 k) (tg := tName i) (fe := fApp m__law_word (aCons (fVar 0) (aCons (fBin opIx (fVar 1) (fC (.int 0))) aNil))) (env0 := env0) (fun d => ∃ w : List Bool, w.length = n.ins ∧ d = eS w) (by rw [rangeD_len]; exact lz hk) (fun d hd n' m1 hb' hn' => by
    rw [rangeD_len] at hn'
    obtain ⟨bs, m2, hl, hq, hb2⟩ := p_word (k := n.ins) hb hj hb' (by omega) (by omega)
    exact ⟨_, rfl, eS bs, m2, e_app (e_cons (e_var (e0 _)) (e_cons (e_bin (e_var (e1 _)) e_c nx0) e_nil)) hq, ⟨_, hl, rfl⟩, hb2.le (by omega)⟩) h
  obtain ⟨ws, rfl, hw⟩ := words_of out h3
  rw [rangeD_len, List.length_map] at h2
  rw [rangeD_len] at h4
  exact ⟨ws, m', h2, hw, h1, h4⟩
theorem mod2 {m : Mem} {t : Nat} (h : t ≤ 1000) : opMod m (eI t) (.int 2) = .ok (eI (t % 2)) m := by
  have : CDiv (t : Int) 2 := ⟨by omega, by omega⟩
  simp [opMod, eI, this]
theorem mul_one {m : Mem} {x : D} {k : Nat} (h : k ≤ 1000) : opMul m (.lst [x]) (eI k) = .ok (.lst (List.replicate k x)) m := by
  show mulL m (.lst [x]) (k : Int) = _
  unfold mulL
  rw [show lstOf m (.lst [x]) = some [x] from rfl]
  dsimp only
  rw [if_pos ⟨by omega, by omega, by rw [Int.toNat_natCast, List.length_singleton, Nat.one_mul]; exact lz h⟩, Int.toNat_natCast]
  congr 2
  simp
theorem at_last {xs : List (List Bool)} (h : xs ≠ []) : atI (xs.map eS) (-1) = some (eS (xs.getLastD [])) := by
  have hl : 0 < xs.length := List.length_pos_iff.mpr h
  unfold atI ixN
  rw [if_neg (by omega), List.length_map, if_pos (by omega)]
  show (xs.map eS)[_]? = _
  have e : (((-1 : Int) + (xs.length : Int)).toNat) = xs.length - 1 := by omega
  simp only [e]
  rw [List.getElem?_map, List.getLastD_eq_getLast?, List.getLast?_eq_getElem?]
  rw [List.getElem?_eq_getElem (by omega)]
  rfl
end LW
namespace LW
open PySem PySem.Spec PyProof.Rows L2 DL
def xExt : FS := fSeq (fPar 5 6 (fLc (fRng1 (aCons (fBin opAdd (fC (.int 1)) (fApp m__law_take (aCons (fVar 0) (aCons (fC (.int 5)) aNil)))) aNil)) [7] (tName 7) fYes (fApp m__law_word (aCons (fVar 0) (aCons (fBin opIx (fVar 1) (fC (.int 0))) aNil)))) (fBin opMod (fCall (op1 opInt) (aCons (fVar 4) aNil)) (fC (.int 2)))) (fSeq (fSet 8 (fApp m__law_run (aCons (fApp m__law_end (aCons (fVar 1) (aCons (fVar 6) aNil))) (aCons (fVar 5) (aCons (fBin opMul (fLst (aCons (fLst aNil) aNil)) (fCall (op1 opLen) (aCons (fVar 5) aNil))) aNil))))) (fSeq (fSet 9 (fIf (fB (fBin opLt (fVar 4) (fC (.int 2)))) (fCall (op1 opList) (aCons (fVar 5) aNil)) (fCall (op1 opTuple) (aCons (fVar 5) aNil)))) (fSeq (fSet 10 (fLst (aCons (fApp m__law_asked (aCons (fC (.int 3)) (aCons (fLst (aCons (fVar 2) (aCons (fVar 9) (aCons (fVar 6) aNil)))) (aCons (fVar 3) aNil)))) (aCons (fApp m__law_asked (aCons (fC (.int 3)) (aCons (fLst (aCons (fVar 2) (aCons (fVar 9) (aCons (fVar 6) aNil)))) (aCons (fNotT (fTr (fVar 3))) aNil)))) aNil)))) (fIfS (tfOr (tfNot (fTr (fApp (m__law_same REC) (aCons (fVar 10) (aCons (fBin opMul (fLst (aCons (fLst (aCons (fC (.str "told")) (aCons (fTup (aCons (fBin opIx (fVar 8) (fC (.int 1))) (aCons (fBin opIx (fBin opIx (fVar 8) (fC (.int 0))) (fNeg (fC (.int 1)))) aNil))) aNil))) aNil)) (fC (.int 2))) aNil))))) (tfNot (fTr (fApp (m__law_same REC) (aCons (fCall (op1 opList) (aCons (fVar 9) aNil)) (aCons (fVar 5) aNil)))))) (fRet (fC (.bl false))) fNext))))
theorem b_ext_eq : b__law_extremes_right = fSeq (fFor (fRng1 (aCons (fC (.int 4)) aNil)) (tName 4) xExt) (fRet (fC (.bl true))) := rfl
theorem int_eI {m : Mem} {k : Nat} : opInt m (eI k) = .ok (eI k) m := rfl
theorem okS_2 {k : Nat} {a b : D} (h1 : okS k a) (h2 : okS k b) : okS (k + 1) (.lst [a, b]) := ⟨by simp, fun x hx => by
  rcases List.mem_cons.mp hx with rfl | hx
  · exact h1
  rw [List.mem_singleton.mp hx]
  exact h2⟩
theorem okS_t2 {k : Nat} {a b : D} (h1 : okS k a) (h2 : okS k b) : okS (k + 1) (.tup [a, b]) := ⟨by simp, fun x hx => by
  rcases List.mem_cons.mp hx with rfl | hx
  · exact h1
  rw [List.mem_singleton.mp hx]
  exact h2⟩
theorem okS_told {k : Nat} : okS (k + 1) (.str "told") := (by decide : ("told" : Str).length ≤ 1000)
theorem okS_words {k : Nat} {ws : List (List Bool)} (hl : ws.length ≤ 5000) (hw : ∀ w ∈ ws, w.length ≤ 1000) : okS (k + 2) (.lst (ws.map eS)) := ⟨by rw [List.length_map]; exact hl, fun x hx => by
  obtain ⟨w, h, rfl⟩ := List.mem_map.mp hx
  exact okS_bits (hw w h)⟩
theorem last_len {n : Nt} (h : NOk n) {now : List Bool} (hn : now.length = n.first.length) (ps : Ps) : ((runF n now ps).2.getLastD []).length ≤ 24 := by
  obtain ⟨_, _, hw⟩ := runF_len h hn ps
  have ho := h.ol
  rw [List.getLastD_eq_getLast?]
  cases hl : (runF n now ps).2.getLast? with
  | none => simp
  | some w =>
    have := hw w (List.mem_of_getLast? hl)
    show w.length ≤ 24
    omega
theorem okS_res {k : Nat} {n : Nt} {ws : List (List Bool)} (h : NOk n) : okS (k + 2) (resF n ws) := by
  have hf := h.f
  have h1 := (runF_len h rfl (ws.map fun w => (w, []))).1
  have h2 := last_len h rfl (ws.map fun w => (w, []))
  exact okS_t2 (okS_bits (by omega)) (okS_bits (by omega))
theorem e_neg1 {env : DL.Env} {m : Mem} : fNeg (fC (.int 1)) env m = .ok (.int (-1)) m := rfl
theorem d_ext {j c t : Nat} {base m : Mem} {n : Nt} {b : Bool} {z5 z6 z7 z8 z9 z10 : Option D} (hb : Ok base) (hj : j < base.length) (hx : Bx j c base m) (hc : c < 800000) (h : NOk n) (ht : t < 4) :
    ∃ (w5 w6 w8 w9 w10 : Option D) (m' : Mem), xExt [some (.cel j), some (eNet n), some (eObj n), some (.bl b), some (eI t), z5, z6, z7, z8, z9, z10] m = .nx [some (.cel j), some (eNet n), some (eObj n), some (.bl b), some (eI t), w5, w6, z7, w8, w9, w10] m' ∧ Bx j (c + 121) base m' := by
  have hi := h.i
  obtain ⟨r, m1, hr, htk, hx1⟩ := e_take (many := 5) (env := [some (.cel j), some (eNet n), some (eObj n), some (.bl b), some (eI t), z5, z6, z7, z8, z9, z10]) (fb := fVar 0) (fe := fC (.int 5)) hb hj hx (by omega) (by omega) (by omega) (e_var rfl) rfl
  obtain ⟨ws, m2, hwl, hww, hlc, hx2⟩ := lc_words (k := 1 + r) (i := 7) (env0 := wipeE [some (.cel j), some (eNet n), some (eObj n), some (.bl b), some (eI t), z5, z6, z7, z8, z9, z10] [7]) (n := n) hb hj hx1 (by omega) (by omega) hi (fun _ => rfl) (fun _ => rfl)
  have hm : Ok m2 := hx2.ok hb
  have hs : t % 2 ≤ 1 := by omega
  have hE := h.endN hs
  have hR := runF_len hE rfl (ws.map fun w => (w, ([] : Hs)))
  have hd : ∃ d, (∀ env : DL.Env, env[4]? = some (some (eI t)) → env[5]? = some (some (.lst (ws.map eS))) → fIf (fB (fBin opLt (fVar 4) (fC (.int 2)))) (fCall (op1 opList) (aCons (fVar 5) aNil)) (fCall (op1 opTuple) (aCons (fVar 5) aNil)) env m2 = .ok d m2) ∧ Wds m2 d ws ∧ opList m2 d = .ok (.lst (ws.map eS)) m2 := by
    by_cases h2 : t < 2
    · exact ⟨_, fun env h4 h5 => e_if1 (e_fB (e_bin (e_var h4) e_c (by rw [show (D.int 2) = eI 2 from rfl, lt_int, decide_eq_true h2]))) (e_call1 (e_var h5) rfl), wds_lst, rfl⟩
    · exact ⟨_, fun env h4 h5 => e_if0 (e_fB (e_bin (e_var h4) e_c (by rw [show (D.int 2) = eI 2 from rfl, lt_int, decide_eq_false h2]))) (e_call1 (e_var h5) rfl), wds_tup, rfl⟩
  obtain ⟨d, hd1, hd2, hd3⟩ := hd
  have ha : ∀ b, m__law_asked m2 [.int 3, .lst [eObj n, d, eI (t % 2)], .bl b] = .ok (.lst [.str "told", resF (endN (t % 2) n) ws]) m2 := fun b => p_asked3 hm h hs hd2 (by omega) (by omega) hww
  have ho := p_run_law (ws := ws) hm hE (by omega) hww
  have hsame1 := p_same hm 12 (.lst [.lst [.str "told", resF (endN (t % 2) n) ws], .lst [.str "told", resF (endN (t % 2) n) ws]]) (okS_2 (okS_2 okS_told (okS_res hE)) (okS_2 okS_told (okS_res hE)))
  have hsame2 := p_same hm 12 (.lst (ws.map eS)) (okS_words (by omega) fun w hw => by have := hww w hw; omega)
  have hne : (runF (endN (t % 2) n) (endN (t % 2) n).first (ws.map fun w => (w, ([] : Hs)))).2 ≠ [] := by
    intro h0
    have := hR.2.1
    rw [h0, List.length_map] at this
    simp at this
    omega
  refine ⟨some (.lst (ws.map eS)), some (eI (t % 2)), some (.lst [.lst ((runF (endN (t % 2) n) (endN (t % 2) n).first (ws.map fun w => (w, ([] : Hs)))).2.map eS), eS (runF (endN (t % 2) n) (endN (t % 2) n).first (ws.map fun w => (w, ([] : Hs)))).1]), some d, some (.lst [.lst [.str "told", resF (endN (t % 2) n) ws], .lst [.str "told", resF (endN (t % 2) n) ws]]), m2, ?_, hx2.le (by omega)⟩
  unfold xExt
  refine e_seq (e_par (e_lc (e_rng (n := 1 + r) (by omega) (e_bin e_c htk (add_nat (a := 1)))) hlc) (e_bin (e_call1 (e_var rfl) int_eI) e_c (mod2 (by omega)))) ?_
  refine e_seq (e_set (e_app (e_cons (e_app (e_cons (e_var rfl) (e_cons (e_var rfl) e_nil)) (p_end hs hm h)) (e_cons (e_var rfl) (e_cons (e_bin (e_lst (e_cons (e_lst e_nil (lz (by simp))) e_nil) (lz (by simp))) (e_call1 (e_var rfl) wds_lst.ln) (mul_one (by omega))) e_nil))) ho)) ?_
  refine e_seq (e_set (hd1 _ rfl rfl)) ?_
  refine e_seq (e_set (e_lst (e_cons (e_app (e_cons e_c (e_cons (e_lst (e_cons (e_var rfl) (e_cons (e_var rfl) (e_cons (e_var rfl) e_nil))) (lz (by simp))) (e_cons (e_var rfl) e_nil))) (ha b)) (e_cons (e_app (e_cons e_c (e_cons (e_lst (e_cons (e_var rfl) (e_cons (e_var rfl) (e_cons (e_var rfl) e_nil))) (lz (by simp))) (e_cons (e_notT (e_trb (e_var rfl))) e_nil))) (ha (!b))) e_nil)) (lz (by simp)))) ?_
  refine e_skip (e_tor0 (e_tnot (e_trb (e_app (e_cons (e_var rfl) (e_cons (e_bin (e_lst (e_cons (e_lst (e_cons e_c (e_cons (e_tup (e_cons (e_bin (e_var rfl) e_c (ix_lst (at1 _ _ _))) (e_cons (e_bin (e_bin (e_var rfl) e_c (ix_lst (at0 _ _))) e_neg1 (ix_lst (at_last hne))) e_nil)) (lz (by simp))) e_nil)) (lz (by simp))) e_nil) (lz (by simp))) e_c (mul_one (k := 2) (by omega))) e_nil)) hsame1))) (e_tnot (e_trb (e_app (e_cons (e_call1 (e_var rfl) hd3) (e_cons (e_var rfl) e_nil)) hsame2))))
theorem p_ext {j c : Nat} {base m : Mem} {n : Nt} {b : Bool} (hb : Ok base) (hj : j < base.length) (hx : Bx j c base m) (hc : c < 700000) (h : NOk n) :
    ∃ m', m__law_extremes_right m [.cel j, eNet n, eObj n, .bl b] = .ok (.bl true) m' ∧ Bx j (c + 484) base m' := by
  obtain ⟨e', m', hf, ⟨w4, w5, w6, w8, w9, w10, rfl⟩, hx'⟩ := for_rng (k := 4) (tg := tName 4) (fb := xExt) (env := [some (.cel j), some (eNet n), some (eObj n), some (.bl b), none, none, none, none, none, none, none]) (m := m)
    (fun i env m1 => (∃ w4 w5 w6 w8 w9 w10 : Option D, env = [some (.cel j), some (eNet n), some (eObj n), some (.bl b), w4, w5, w6, none, w8, w9, w10]) ∧ Bx j (c + 121 * i) base m1)
    ⟨⟨none, none, none, none, none, none, rfl⟩, hx⟩ (fun i env m1 hi hI => by
      obtain ⟨⟨w4, w5, w6, w8, w9, w10, rfl⟩, hx1⟩ := hI
      obtain ⟨v5, v6, v8, v9, v10, m2, hq, hx2⟩ := d_ext (b := b) (z5 := w5) (z6 := w6) (z7 := none) (z8 := w8) (z9 := w9) (z10 := w10) hb hj hx1 (by omega) h hi
      exact ⟨_, rfl, _, m2, hq, ⟨_, _, _, _, _, _, rfl⟩, hx2.le (by omega)⟩)
  refine ⟨m', ?_, hx'⟩
  refine fn_rt rfl (d := .bl true) (m' := m') ?_ (leave_len (by rw [hx.len, hx'.len]) (hx'.ok hb) rfl)
  rw [b_ext_eq]
  exact e_seq (e_for (e_rng (n := 4) (by omega) e_c) hf) (e_ret e_c)
end LW
namespace LW
open PySem PySem.Spec PyProof.Rows L2 DL
/-! hurts of one sign: what is hurt lies on that sign's side of the net without nots -/
def rel (b x y : Bool) : Prop := if b = true then (y = true → x = true) else (x = true → y = true)
theorem rel_self {b y : Bool} : rel b b y := by cases b <;> cases y <;> simp [rel]
theorem rel_refl {b y : Bool} : rel b y y := by cases b <;> simp [rel]
structure RelL (b : Bool) (xs ys : List Bool) : Prop where
  len : xs.length = ys.length
  at_ : ∀ i, rel b (xs.getD i false) (ys.getD i false)
theorem RelL.refl {b : Bool} {xs : List Bool} : RelL b xs xs := ⟨rfl, fun _ => rel_refl⟩
def AllS (b : Bool) (hs : Hs) : Prop := ∀ p ∈ hs, p.2 = b
theorem hget_rel {b x y : Bool} {hs : Hs} {k : List Key} (h : AllS b hs) (hr : rel b x y) : rel b (hget hs k x) y := by
  unfold hget
  cases hf : hs.find? fun p => decide (p.1 = k) with
  | none => exact hr
  | some p =>
    have := h p (List.mem_of_find?_eq_some hf)
    show rel b p.2 y
    rw [this]
    exact rel_self
theorem hget_nil {k : List Key} {x : Bool} : hget [] k x = x := rfl
theorem RelL.snoc {b x y : Bool} {xs ys : List Bool} (h : RelL b xs ys) (hr : rel b x y) : RelL b (xs ++ [x]) (ys ++ [y]) := by
  refine ⟨by simp [h.len], fun i => ?_⟩
  rw [List.getD_eq_getElem?_getD, List.getD_eq_getElem?_getD, List.getElem?_append, List.getElem?_append, h.len]
  by_cases hi : i < ys.length
  · rw [if_pos hi, if_pos hi, ← List.getD_eq_getElem?_getD, ← List.getD_eq_getElem?_getD]
    exact h.at_ i
  · rw [if_neg hi, if_neg hi]
    cases hk : i - ys.length with
    | zero => exact hr
    | succ k =>
      simp
      exact rel_refl
theorem RelL.mapIdx {b : Bool} {α : Type} {xs : List α} {f g : Nat → α → Bool} (h : ∀ i x, xs[i]? = some x → rel b (f i x) (g i x)) : RelL b (xs.mapIdx f) (xs.mapIdx g) := by
  refine ⟨by simp, fun i => ?_⟩
  rw [List.getD_eq_getElem?_getD, List.getD_eq_getElem?_getD, List.getElem?_mapIdx, List.getElem?_mapIdx]
  cases hx : xs[i]? with
  | none => exact rel_refl
  | some x => exact h i x hx
theorem all_get {xs : List Bool} : xs.all _root_.id = true ↔ ∀ i, i < xs.length → xs.getD i false = true := by
  rw [List.all_eq_true]
  constructor
  · intro h i hi
    rw [List.getD_eq_getElem?_getD, List.getElem?_eq_getElem hi]
    exact h _ (List.getElem_mem hi)
  · intro h x hx
    obtain ⟨i, hi, rfl⟩ := List.mem_iff_getElem.mp hx
    have := h i hi
    rw [List.getD_eq_getElem?_getD, List.getElem?_eq_getElem hi] at this
    exact this
theorem any_get {xs : List Bool} : xs.any _root_.id = true ↔ ∃ i, xs.getD i false = true := by
  rw [List.any_eq_true]
  constructor
  · rintro ⟨x, hx, h⟩
    obtain ⟨i, hi, rfl⟩ := List.mem_iff_getElem.mp hx
    refine ⟨i, ?_⟩
    rw [List.getD_eq_getElem?_getD, List.getElem?_eq_getElem hi]
    exact h
  · rintro ⟨i, h⟩
    by_cases hi : i < xs.length
    · rw [List.getD_eq_getElem?_getD, List.getElem?_eq_getElem hi] at h
      exact ⟨_, List.getElem_mem hi, h⟩
    · rw [List.getD_eq_getElem?_getD, List.getElem?_eq_none (by omega)] at h
      cases h
theorem rel_all {b : Bool} {xs ys : List Bool} (h : RelL b xs ys) : rel b (xs.all _root_.id) (ys.all _root_.id) := by
  have ha := h.at_
  have hl := h.len
  cases b with
  | true =>
    show ys.all _root_.id = true → xs.all _root_.id = true
    rw [all_get, all_get]
    intro hy i hi
    exact ha i (hy i (by omega))
  | false =>
    show xs.all _root_.id = true → ys.all _root_.id = true
    rw [all_get, all_get]
    intro hy i hi
    exact ha i (hy i (by omega))
theorem rel_any {b : Bool} {xs ys : List Bool} (h : RelL b xs ys) : rel b (xs.any _root_.id) (ys.any _root_.id) := by
  have ha := h.at_
  cases b with
  | true =>
    show ys.any _root_.id = true → xs.any _root_.id = true
    rw [any_get, any_get]
    rintro ⟨i, hi⟩
    exact ⟨i, ha i hi⟩
  | false =>
    show xs.any _root_.id = true → ys.any _root_.id = true
    rw [any_get, any_get]
    rintro ⟨i, hi⟩
    exact ⟨i, ha i hi⟩
def sN (b : Bool) : Nat := if b then 1 else 0
def endG (s : Nat) (g : G) : G := if g.k = 2 then ⟨s, []⟩ else g
theorem rel_gate {b : Bool} {hs : Hs} {i : Nat} {sig tig : List Bool} {g : G} (hk : g.k ≤ 2) (hh : AllS b hs) (h : RelL b sig tig) : rel b (gsig g.k (gread hs i sig g.ws)) (gsig (endG (sN b) g).k (gread [] i tig (endG (sN b) g).ws)) := by
  obtain ⟨k, ws⟩ := g
  have hr : RelL b (gread hs i sig ws) (gread [] i tig ws) := RelL.mapIdx fun j w _ => hget_rel hh (h.at_ w)
  match k, hk with
  | 0, _ => exact rel_all hr
  | 1, _ => exact rel_any hr
  | 2, _ =>
    cases b with
    | false => exact fun _ => rfl
    | true => exact fun h => nomatch (show false = true from h)
theorem rel_gates {b : Bool} {hs : Hs} (hh : AllS b hs) : ∀ (gs : List G) (i : Nat) (sig tig : List Bool), (∀ g ∈ gs, g.k ≤ 2) → RelL b sig tig → RelL b (gates hs i gs sig) (gates [] i (gs.map (endG (sN b))) tig)
  | [], _, _, _, _, h => h
  | g :: gs, i, sig, tig, hk, h => by
    rw [List.map_cons, gates, gates]
    exact rel_gates hh gs (i + 1) _ _ (fun x hx => hk x (List.mem_cons_of_mem _ hx)) (h.snoc (hget_rel hh (rel_gate (hk g List.mem_cons_self) hh h)))
theorem RelL.append {b : Bool} {xs ys us vs : List Bool} (h : RelL b xs ys) (g : RelL b us vs) : RelL b (xs ++ us) (ys ++ vs) := by
  refine ⟨by simp [h.len, g.len], fun i => ?_⟩
  rw [List.getD_eq_getElem?_getD, List.getD_eq_getElem?_getD, List.getElem?_append, List.getElem?_append, h.len]
  by_cases hi : i < ys.length
  · rw [if_pos hi, if_pos hi, ← List.getD_eq_getElem?_getD, ← List.getD_eq_getElem?_getD]
    exact h.at_ i
  · rw [if_neg hi, if_neg hi, ← List.getD_eq_getElem?_getD, ← List.getD_eq_getElem?_getD]
    exact g.at_ _
theorem RelL.mapHs {b : Bool} {hs : Hs} {xs ys : List Bool} {k : Nat → List Key} (hh : AllS b hs) (h : RelL b xs ys) : RelL b (xs.mapIdx fun i x => hget hs (k i) x) (ys.mapIdx fun i x => hget [] (k i) x) := by
  refine ⟨by simp [h.len], fun i => ?_⟩
  have e : (ys.mapIdx fun i x => hget [] (k i) x) = ys := by
    apply List.ext_getElem?
    intro j
    simp [hget]
  rw [e]
  rw [List.getD_eq_getElem?_getD, List.getElem?_mapIdx]
  have hi := h.at_ i
  rw [List.getD_eq_getElem?_getD (l := xs)] at hi
  cases hx : xs[i]? with
  | none =>
    rw [hx] at hi
    exact hi
  | some x =>
    rw [hx] at hi
    exact hget_rel hh hi
theorem rel_step {b : Bool} {hs : Hs} {n : Nt} {now tow given : List Bool} (hn : NOk n) (hh : AllS b hs) (h : RelL b now tow) : RelL b (stepF n now given hs).1 (stepF (endN (sN b) n) tow given []).1 ∧ RelL b (stepF n now given hs).2 (stepF (endN (sN b) n) tow given []).2 := by
  have hs0 : RelL b (sigs n now given hs) (sigs (endN (sN b) n) tow given []) := rel_gates hh n.gs 0 _ _ hn.kOk ((RelL.refl.append h).mapHs (k := fun i => [.inr "wire", .inl i]) hh)
  exact ⟨RelL.mapIdx fun i w _ => hget_rel hh (hs0.at_ w), RelL.mapIdx fun i w _ => hget_rel hh (hs0.at_ w)⟩
theorem rel_run {b : Bool} {n : Nt} (hn : NOk n) : ∀ (ps : Ps) (now tow : List Bool) (o u : List (List Bool)), (∀ p ∈ ps, AllS b p.2) → RelL b now tow → o.length = u.length → (∀ i, RelL b (o.getD i []) (u.getD i [])) →
    RelL b (ps.foldl (fun r p => ((stepF n r.1 p.1 p.2).1, r.2 ++ [(stepF n r.1 p.1 p.2).2])) (now, o)).1 ((ps.map fun p => (p.1, ([] : Hs))).foldl (fun r p => ((stepF (endN (sN b) n) r.1 p.1 p.2).1, r.2 ++ [(stepF (endN (sN b) n) r.1 p.1 p.2).2])) (tow, u)).1 ∧
    ∀ i, RelL b ((ps.foldl (fun r p => ((stepF n r.1 p.1 p.2).1, r.2 ++ [(stepF n r.1 p.1 p.2).2])) (now, o)).2.getD i []) (((ps.map fun p => (p.1, ([] : Hs))).foldl (fun r p => ((stepF (endN (sN b) n) r.1 p.1 p.2).1, r.2 ++ [(stepF (endN (sN b) n) r.1 p.1 p.2).2])) (tow, u)).2.getD i [])
  | [], _, _, _, _, _, h, _, h2 => ⟨h, h2⟩
  | p :: ps, now, tow, o, u, hp, h, hl, h2 => by
    obtain ⟨r1, r2⟩ := rel_step (given := p.1) hn (hp p List.mem_cons_self) h
    rw [List.map_cons, List.foldl_cons, List.foldl_cons]
    refine rel_run hn ps _ _ _ _ (fun q hq => hp q (List.mem_cons_of_mem _ hq)) r1 (by simp [hl]) fun i => ?_
    rw [List.getD_eq_getElem?_getD, List.getD_eq_getElem?_getD, List.getElem?_append, List.getElem?_append, hl]
    by_cases hi : i < u.length
    · rw [if_pos hi, if_pos hi, ← List.getD_eq_getElem?_getD, ← List.getD_eq_getElem?_getD]
      exact h2 i
    · rw [if_neg hi, if_neg hi]
      cases hk : i - u.length with
      | zero => exact r2
      | succ k =>
        simp
        exact RelL.refl
theorem rel_runF {b : Bool} {n : Nt} {ps : Ps} (hn : NOk n) (hp : ∀ p ∈ ps, AllS b p.2) : RelL b (runF n n.first ps).1 (runF (endN (sN b) n) (endN (sN b) n).first (ps.map fun p => (p.1, []))).1 ∧ ∀ i, RelL b ((runF n n.first ps).2.getD i []) ((runF (endN (sN b) n) (endN (sN b) n).first (ps.map fun p => (p.1, []))).2.getD i []) :=
  rel_run hn ps n.first n.first [] [] hp RelL.refl rfl fun _ => RelL.refl
end LW
namespace LW
open PySem PySem.Spec PyProof.Rows L2 DL
/-! cells behind the base -/
section
variable {j c : Nat} {base m : Mem} {ext : List (Option C)}
theorem bxe_get (i : Nat) (hj : j < base.length) (h : Bx j c (base ++ ext) m) : m[base.length + i]? = ext[i]? := by
  obtain ⟨a, b, c', d, rfl, _⟩ := h
  rw [List.set_append_left _ _ hj, List.getElem?_append_right (by rw [List.length_set]; omega), List.length_set, Nat.add_sub_cancel_left]
theorem bxe_set (i : Nat) (e : Option C) (hj : j < base.length) (h : Bx j c (base ++ ext) m) : Bx j c (base ++ ext.set i e) (m.set (base.length + i) e) := by
  obtain ⟨a, b, c', d, rfl, q⟩ := h
  refine ⟨a, b, c', d, ?_, q⟩
  rw [List.set_append_left _ _ hj, List.set_append_left _ _ hj, List.set_append_right _ _ (by rw [List.length_set]; omega), List.length_set, Nat.add_sub_cancel_left]
theorem bxe_take (hj : j < base.length) (h : Bx j c (base ++ ext) m) : Bx j c base (m.take base.length) := by
  obtain ⟨a, b, c', d, rfl, q⟩ := h
  refine ⟨a, b, c', d, ?_, q⟩
  rw [List.set_append_left _ _ hj, List.take_append_of_le_length (by rw [List.length_set]; omega), List.take_of_length_le (by rw [List.length_set]; omega)]
end
section
variable {m : Mem} {k : Nat} {xs : List D}
theorem ck_seq (h : m[k]? = some (some (.lst xs))) : seqOf m (.cel k) = some xs := by simp only [seqOf, rlstOf, lstOf, h]
theorem ck_len (h : m[k]? = some (some (.lst xs))) : opLen m (.cel k) = .ok (eI xs.length) m := by
  have e : lenD m (.cel k) = some xs.length := by
    show (match seqOf m (.cel k) with | some xs => _ | none => _) = _
    rw [ck_seq h]
  unfold opLen
  rw [e]
  rfl
theorem ck_cel (h : m[k]? = some (some (.lst xs))) : celL m (.cel k) = some (k, xs) := by
  unfold celL
  dsimp only
  rw [h]
theorem ck_app {d : D} (h : m[k]? = some (some (.lst xs))) (hl : xs.length ≤ 1000) : opAppend m (.cel k) [d] = .ok .non (m.set k (some (.lst (xs ++ [d])))) := by
  unfold opAppend
  rw [ck_cel h]
  dsimp only
  rw [if_pos (Nat.lt_of_le_of_lt hl (by rw [sizeLine_eq]; omega))]
theorem ck_pop {r : Nat} {d : D} (h : m[k]? = some (some (.lst xs))) (hd : xs[r]? = some d) (hl : xs.length ≤ 1000) : opPopAt m (.cel k) [eI r] = .ok d (m.set k (some (.lst (xs.eraseIdx r)))) := by
  have hr := (List.getElem?_eq_some_iff.mp hd).1
  have e : seqIndex? (r : Int) xs.length = some r := by
    unfold seqIndex?
    have h0 : ¬ ((r : Nat) : Int) < 0 := by omega
    simp [h0, hr]
  unfold opPopAt
  rw [ck_cel h]
  simp only [eI]
  rw [if_pos (by omega), e]
  dsimp only
  rw [hd]
end
theorem perm_erase {α : Type} : ∀ (ys : List α) (r : Nat) (h : r < ys.length), (ys[r] :: ys.eraseIdx r).Perm ys
  | y :: ys, 0, _ => .refl _
  | y :: ys, r + 1, h => (List.Perm.swap y _ _).trans ((perm_erase ys r (by simpa using h)).cons y)
theorem map_erase {α β : Type} (e : α → β) : ∀ (ys : List α) (r : Nat), (ys.map e).eraseIdx r = (ys.eraseIdx r).map e
  | [], _ => rfl
  | y :: ys, 0 => rfl
  | y :: ys, r + 1 => by
    show e y :: (ys.map e).eraseIdx r = e y :: (ys.eraseIdx r).map e
    rw [map_erase e ys r]
theorem perm_pop {α : Type} {xs ys : List α} {r : Nat} (h : r < ys.length) : (xs ++ [ys[r]] ++ ys.eraseIdx r).Perm (xs ++ ys) := by
  rw [List.append_assoc]
  exact (perm_erase ys r h).append_left xs
theorem p_mixed {α : Type} {e : α → D} {j c : Nat} {base m : Mem} {xs : List α} (hlow : ∀ x k, (e x).low k = true) (hb : Ok base) (hj : j < base.length) (h : Bx j c base m) (hc : c + xs.length < 900000) (hl : xs.length ≤ 900) :
    ∃ (ys : List α) (m' : Mem), ys.Perm xs ∧ m__law_mixed m [.cel j, .lst (xs.map e)] = .ok (.lst (ys.map e)) m' ∧ Bx j (c + xs.length) base m' := by
  have hlw : ∀ (k : Nat) (zs : List α), (C.lst (zs.map e)).low k = true := fun k zs => lowL_map fun x _ => hlow x k
  have hB : ∀ zs ys : List α, Ok (base ++ [some (.lst (zs.map e)), some (.lst (ys.map e))]) := fun zs ys => by
    have := ok_app (ok_app hb (hlw _ zs)) (hlw ((base ++ [some (C.lst (zs.map e))]).length + 1) ys)
    rw [List.append_assoc] at this
    exact this
  have hl0 : ∀ zs ys : List α, j < (base ++ [some (C.lst (zs.map e)), some (C.lst (ys.map e))]).length := fun zs ys => by
    rw [List.length_append]
    omega
  have hstart : Bx j c (base ++ [some (C.lst (xs.map e)), some (C.lst (([] : List α).map e))]) (m ++ [some (.lst (xs.map e))] ++ [some (.lst [])]) := by
    have := bx_push (c := some (C.lst [])) (by rw [List.length_append]; omega) (bx_push (c := some (C.lst (xs.map e))) hj h)
    rw [List.append_assoc base] at this
    exact this
  obtain ⟨e', m', hf, ⟨w4, rfl⟩, left, found, hll, hfl, hp, hx⟩ := for_rng (k := xs.length) (tg := tName 4) (fb := fExpr (fML opAppend (fVar 3) (aCons (fML opPopAt (fVar 2) (aCons (fApp m__law_take (aCons (fVar 0) (aCons (fCall (op1 opLen) (aCons (fVar 2) aNil)) aNil))) aNil)) aNil)))
    (env := [some (.cel j), some (.lst (xs.map e)), some (.cel (base.length + 0)), some (.cel (base.length + 1)), none]) (m := m ++ [some (.lst (xs.map e))] ++ [some (.lst [])])
    (fun i env m1 => (∃ w4 : Option D, env = [some (.cel j), some (.lst (xs.map e)), some (.cel (base.length + 0)), some (.cel (base.length + 1)), w4]) ∧ ∃ left found : List α, left.length = xs.length - i ∧ found.length = i ∧ (found ++ left).Perm xs ∧ Bx j (c + i) (base ++ [some (.lst (left.map e)), some (.lst (found.map e))]) m1)
    ⟨⟨none, rfl⟩, xs, [], by omega, rfl, .refl _, hstart⟩ (fun i env m1 hi hI => by
      obtain ⟨⟨w4, rfl⟩, left, found, hll, hfl, hp, hx⟩ := hI
      have g0 := bxe_get 0 hj hx
      have g1 := bxe_get 1 hj hx
      obtain ⟨r, m2, hr, htk, hx2⟩ := e_take (many := left.length) (env := [some (.cel j), some (.lst (xs.map e)), some (.cel (base.length + 0)), some (.cel (base.length + 1)), some (eI i)]) (fb := fVar 0) (fe := fCall (op1 opLen) (aCons (fVar 2) aNil)) (hB left found) (hl0 left found) hx (by omega) (by omega) (by omega) (e_var rfl) (e_call1 (e_var rfl) ((ck_len g0).trans (by rw [List.length_map])))
      have k0 := bxe_get 0 hj hx2
      have q := ck_pop (r := r) (d := e left[r]) k0 (by rw [List.getElem?_map, List.getElem?_eq_getElem hr]; rfl) (by rw [List.length_map]; omega)
      have hx3 := bxe_set 0 (some (C.lst ((left.map e).eraseIdx r))) hj hx2
      have k1 := bxe_get 1 hj hx3
      have hx4 := bxe_set 1 (some (C.lst (found.map e ++ [e left[r]]))) hj hx3
      refine ⟨_, rfl, _, _, e_expr (e_mL (e_var rfl) (ck_cel g1) (e_cons (e_mL (e_var rfl) (ck_cel g0) (e_cons htk e_nil) q) e_nil) (ck_app k1 (by rw [List.length_map]; omega))), ⟨_, rfl⟩, left.eraseIdx r, found ++ [left[r]], ?_, by simp [hfl], (perm_pop hr).trans hp, ?_⟩
      · rw [List.length_eraseIdx, if_pos hr]
        omega
      · rw [List.map_append, ← map_erase]
        exact hx4)
  have hl' : left = [] := List.length_eq_zero_iff.mp (by omega)
  subst hl'
  rw [List.append_nil] at hp
  refine ⟨found, m'.take base.length, hp, ?_, bxe_take hj hx⟩
  have g1 := bxe_get 1 hj hx
  have hx' := bxe_set 1 none hj hx
  refine fn_rt rfl (m' := m'.set (base.length + 1) none) (d := .lst (found.map e)) ?_ ?_
  · unfold b__law_mixed
    have z1 : opListC m (.lst (xs.map e)) = .ok (.cel (base.length + 0)) (m ++ [some (.lst (xs.map e))]) := by
      rw [Nat.add_zero, ← h.len]
      rfl
    have z2 : ∀ env : DL.Env, fLstC aNil env (m ++ [some (.lst (xs.map e))]) = .ok (.cel (base.length + 1)) (m ++ [some (.lst (xs.map e))] ++ [some (.lst [])]) := fun env => by
      rw [e_lstC e_nil (lz (by simp)), List.length_append, h.len]
      rfl
    refine e_seq (e_par (e_call1 (e_var rfl) z1) (z2 _)) ?_
    refine e_seq (e_for (e_rng (n := xs.length) (by omega) (e_call1 (e_var rfl) (by rw [len_lst, List.length_map]))) hf) (e_ret ?_)
    unfold fFz
    rw [e_var rfl, R.bind]
    unfold fzD
    dsimp only
    rw [g1]
    rfl
  · refine leave_take (m := m'.take base.length) ?_ ?_ (lowL_map fun x _ => hlow x _)
    · rw [h.len]
      rw [List.take_set_of_le (by omega)]
    · have := (bxe_take hj hx).ok hb
      rw [Ok, (bxe_take hj hx).len] at this
      rw [h.len]
      exact this
end LW
namespace LW
open PySem PySem.Spec PyProof.Rows L2 DL
theorem keyT_tkD (k : TK) : keyT (tkD k) = some k := by
  obtain ⟨x, is⟩ := k
  have e : ∀ is : List Int, intsD (is.map D.int) = some is := by
    intro is
    induction is with
    | nil => rfl
    | cons i is ih =>
      show (intsD (is.map D.int)).map _ = _
      rw [ih]
      rfl
  show (intsD (is.map D.int)).map _ = _
  rw [e]
  rfl
theorem keysT_tkD : ∀ ks : List TK, keysT (ks.map tkD) = some ks
  | [] => rfl
  | k :: ks => by
    show (match keyT (tkD k), keysT (ks.map tkD) with | some k, some ks => some (k :: ks) | _, _ => none) = _
    rw [keyT_tkD, keysT_tkD ks]
theorem sorted_tk {m : Mem} {ks : List TK} : opSorted m (.lst (ks.map tkD)) = .ok (.lst ((sortK ks).map tkD)) m := by
  unfold opSorted
  rw [show lstOf m (.lst (ks.map tkD)) = some (ks.map tkD) from rfl, Option.bind_some, keysT_tkD]
def kNx (k : Nat) : TK := ("next", [(k : Int)])
def kOu (k : Nat) : TK := ("out", [(k : Int)])
def kWi (k : Nat) : TK := ("wire", [(k : Int)])
def kGa (g k : Nat) : TK := ("gate", [(g : Int), (k : Int)])
def gp (n : Nt) (i : Nat) : List TK := ((n.gs.take i).mapIdx fun g x => (List.range x.ws.length).map (kGa g)).flatten
def rawB (n : Nt) (i : Nat) : List TK := (List.range n.nx.length).map kNx ++ (List.range n.ou.length).map kOu ++ gp n i
theorem gp_succ {n : Nt} {i : Nat} {g : G} (h : n.gs[i]? = some g) : gp n (i + 1) = gp n i ++ (List.range g.ws.length).map (kGa i) := by
  have hlt := (List.getElem?_eq_some_iff.mp h).1
  unfold gp
  rw [List.take_succ, h]
  show (List.mapIdx _ (n.gs.take i ++ [g])).flatten = _
  rw [List.mapIdx_concat, List.flatten_append, List.length_take, Nat.min_eq_left (by omega)]
  simp
theorem gp_len {n : Nt} (h : NOk n) : ∀ i, (gp n i).length ≤ 3 * i
  | 0 => by simp [gp]
  | i + 1 => by
    have ih := gp_len h i
    cases hg : n.gs[i]? with
    | none =>
      have e : gp n (i + 1) = gp n i := by
        unfold gp
        rw [List.take_succ, hg]
        simp
      rw [e]
      omega
    | some g =>
      have hw := h.wl (List.mem_of_getElem? hg)
      rw [gp_succ hg, List.length_append, List.length_map, List.length_range]
      omega
theorem rawB_len {n : Nt} (h : NOk n) {i : Nat} (hi : i ≤ n.gs.length) : (rawB n i).length ≤ 228 := by
  have h1 := gp_len h i
  have h2 := h.nl
  have h3 := h.f
  have h4 := h.ol
  have h5 := h.g
  unfold rawB
  rw [List.length_append, List.length_append, List.length_map, List.length_map, List.length_range, List.length_range]
  omega
theorem p_branches {m : Mem} {n : Nt} (hm : Ok m) (h : NOk n) : m__law_branches m [eNet n] = .ok (.lst ((sortK (rawB n n.gs.length)).map tkD)) m := by
  have h2 := h.nl
  have h3 := h.f
  have h4 := h.ol
  have h5 := h.g
  obtain ⟨e', m', hf, ⟨⟨w2, w3, w4, rfl⟩, rfl⟩⟩ := for_rng (k := n.gs.length) (tg := tName 3) (fb := fSet 1 (fBin opAdd (fVar 1) (fLc (fRng1 (aCons (fCall (op1 opLen) (aCons (fBin opIx (fBin opIx (fBin opIx (fVar 0) (fC (.int 2))) (fVar 3)) (fC (.int 1))) aNil)) aNil)) [4] (tName 4) fYes (fTup (aCons (fC (.str "gate")) (aCons (fVar 3) (aCons (fVar 4) aNil)))))))
    (env := [some (eNet n), some (.lst ((rawB n 0).map tkD)), none, none, none]) (m := m)
    (fun i env m1 => (∃ w2 w3 w4 : Option D, env = [some (eNet n), some (.lst ((rawB n i).map tkD)), w2, w3, w4]) ∧ m1 = m)
    ⟨⟨none, none, none, rfl⟩, rfl⟩ (fun i env m1 hi hI => by
      obtain ⟨⟨w2, w3, w4, rfl⟩, rfl⟩ := hI
      have hg : n.gs[i]? = some n.gs[i] := List.getElem?_eq_getElem hi
      have hw := h.wl (List.getElem_mem hi)
      have hr := rawB_len h (i := i) (by omega)
      refine ⟨_, rfl, _, _, e_set (a := .lst ((rawB n (i + 1)).map tkD)) (e_bin (e_var rfl) (e_lc (e_rng (n := n.gs[i].ws.length) (by omega) (e_call1 (e_bin (e_bin (e_bin (e_var rfl) e_c nx2) (e_var rfl) (ix_gs hg)) e_c (ix_tup (at1 _ _ _))) len_eW)) (lc_rng (f := fun k => tkD (kGa i k)) (by omega) fun k hk => ⟨_, rfl, rfl, e_tup (e_cons e_c (e_cons (e_var rfl) (e_cons (e_var rfl) e_nil))) (lz (by simp [kGa]))⟩)) ?_), ⟨w2, some (eI i), w4, rfl⟩, rfl⟩
      rw [add_lists (by rw [List.length_map, List.length_map, List.length_range]; omega)]
      unfold rawB
      rw [gp_succ hg, ← List.append_assoc, List.map_append (l₂ := (List.range _).map (kGa i)), List.map_map (f := kGa i)]
      rfl)
  refine fn_rt rfl (m' := m') (d := .lst ((sortK (rawB n n.gs.length)).map tkD)) ?_ (leave_same hm (lowL_map fun k _ => by
    show lowL _ (.str k.1 :: k.2.map .int) = true
    exact low_cons rfl (lowL_map fun _ _ => rfl)))
  unfold b__law_branches
  have e0 : (List.range n.nx.length).map (fun k => tkD (kNx k)) ++ (List.range n.ou.length).map (fun k => tkD (kOu k)) = (rawB n 0).map tkD := by
    unfold rawB
    rw [show gp n 0 = [] from rfl, List.append_nil, List.map_append, List.map_map, List.map_map]
    rfl
  refine e_seq (e_set (a := .lst ((rawB n 0).map tkD)) (e_bin (e_lc (e_rng (n := n.nx.length) (by omega) (e_call1 (e_bin (e_var rfl) e_c nx3) len_eW)) (lc_rng (f := fun k => tkD (kNx k)) (by omega) fun k hk => ⟨_, rfl, rfl, e_tup (e_cons e_c (e_cons (e_var rfl) e_nil)) (lz (by simp [kNx]))⟩)) (e_lc (e_rng (n := n.ou.length) (by omega) (e_call1 (e_bin (e_var rfl) e_c nx4) len_eW)) (lc_rng (f := fun k => tkD (kOu k)) (by omega) fun k hk => ⟨_, rfl, rfl, e_tup (e_cons e_c (e_cons (e_var rfl) e_nil)) (lz (by simp [kOu]))⟩)) ((add_lists (by rw [List.length_map, List.length_map, List.length_range, List.length_range]; omega)).trans (by rw [e0])))) ?_
  refine e_seq (e_for (e_rng (by omega) (e_call1 (e_bin (e_var rfl) e_c nx2) len_gs)) hf) ?_
  exact e_ret (e_call1 (e_var rfl) sorted_tk)
def plcs (n : Nt) : List TK := sortK (rawB n n.gs.length) ++ (List.range n.wires).map kWi
theorem p_places {m : Mem} {n : Nt} (hm : Ok m) (h : NOk n) : m__law_places m [eNet n] = .ok (.lst ((plcs n).map tkD)) m := by
  have h1 := h.i
  have h3 := h.f
  have h5 := h.g
  have hw : n.wires ≤ 108 := by rw [Nt.wires]; omega
  have hr : (sortK (rawB n n.gs.length)).length ≤ 228 := by rw [(sortK_perm _).length_eq]; exact rawB_len h (Nat.le_refl _)
  refine fn_rt rfl (m' := m) (d := .lst ((plcs n).map tkD)) ?_ (leave_same hm (lowL_map fun k _ => by
    show lowL _ (.str k.1 :: k.2.map .int) = true
    exact low_cons rfl (lowL_map fun _ _ => rfl)))
  unfold b__law_places
  refine e_ret (e_bin (e_app (e_cons (e_var rfl) e_nil) (p_branches hm h)) (e_lc (e_rng (n := n.wires) (by omega) (e_bin (e_bin (e_bin (e_var rfl) e_c nx0) (e_call1 (e_bin (e_var rfl) e_c nx1) (len_first h)) add_nat) (e_call1 (e_bin (e_var rfl) e_c nx2) len_gs) add_nat)) (lc_rng (f := fun k => tkD (kWi k)) (by omega) fun k hk => ⟨_, rfl, rfl, e_tup (e_cons e_c (e_cons (e_var rfl) e_nil)) (lz (by simp [kWi]))⟩)) ?_)
  rw [add_lists (by rw [List.length_map, List.length_map, List.length_range]; omega)]
  unfold plcs
  rw [List.map_append, List.map_map]
  rfl
def PlOk (n : Nt) (k : TK) : Prop := (∃ g i x, n.gs[g]? = some x ∧ i < x.ws.length ∧ k = kGa g i) ∨ (∃ i, i < n.wires ∧ k = kWi i) ∨ (∃ i, i < n.first.length ∧ k = kNx i) ∨ (∃ i, i < n.ou.length ∧ k = kOu i)
theorem gp_mem {n : Nt} {k : TK} : ∀ i, i ≤ n.gs.length → k ∈ gp n i → ∃ g j x, g < i ∧ n.gs[g]? = some x ∧ j < x.ws.length ∧ k = kGa g j
  | 0, _, h => by simp [gp] at h
  | i + 1, hi, h => by
    have hg : n.gs[i]? = some n.gs[i] := List.getElem?_eq_getElem (by omega)
    rw [gp_succ hg] at h
    rcases List.mem_append.mp h with h | h
    · obtain ⟨g, j, x, a, b⟩ := gp_mem i (by omega) h
      exact ⟨g, j, x, by omega, b⟩
    · obtain ⟨j, hj, rfl⟩ := List.mem_map.mp h
      exact ⟨i, j, _, by omega, hg, List.mem_range.mp hj, rfl⟩
theorem plcs_ok {n : Nt} (h : NOk n) : ∀ k ∈ plcs n, PlOk n k := by
  intro k hk
  have h2 := h.nl
  rcases List.mem_append.mp hk with hk | hk
  · have hk := (sortK_perm _).mem_iff.mp hk
    rcases List.mem_append.mp hk with hk | hk
    · rcases List.mem_append.mp hk with hk | hk
      · obtain ⟨i, hi, rfl⟩ := List.mem_map.mp hk
        have := List.mem_range.mp hi
        exact .inr (.inr (.inl ⟨i, by omega, rfl⟩))
      · obtain ⟨i, hi, rfl⟩ := List.mem_map.mp hk
        exact .inr (.inr (.inr ⟨i, List.mem_range.mp hi, rfl⟩))
    · obtain ⟨g, j, x, a, b, c, d⟩ := gp_mem _ (Nat.le_refl _) hk
      exact .inl ⟨g, j, x, b, c, d⟩
  · obtain ⟨i, hi, rfl⟩ := List.mem_map.mp hk
    exact .inr (.inl ⟨i, List.mem_range.mp hi, rfl⟩)
theorem nd_map {f : Nat → TK} (hf : ∀ a b, f a = f b → a = b) (k : Nat) : ((List.range k).map f).Nodup := by
  refine List.Pairwise.map f (R := fun a b => a ≠ b) (fun a b h e => h (hf a b e)) ?_
  exact List.nodup_range
theorem kNx_inj (a b : Nat) (h : kNx a = kNx b) : a = b := by simp [kNx] at h; omega
theorem kOu_inj (a b : Nat) (h : kOu a = kOu b) : a = b := by simp [kOu] at h; omega
theorem kWi_inj (a b : Nat) (h : kWi a = kWi b) : a = b := by simp [kWi] at h; omega
theorem kGa_inj (g : Nat) (a b : Nat) (h : kGa g a = kGa g b) : a = b := by simp [kGa] at h; omega
theorem gp_nd {n : Nt} : ∀ i, i ≤ n.gs.length → (gp n i).Nodup
  | 0, _ => by simp [gp]
  | i + 1, hi => by
    have hg : n.gs[i]? = some n.gs[i] := List.getElem?_eq_getElem (by omega)
    rw [gp_succ hg]
    refine List.nodup_append.mpr ⟨gp_nd i (by omega), nd_map (kGa_inj i) _, fun a ha b hb e => ?_⟩
    obtain ⟨g, j, x, q, _, _, rfl⟩ := gp_mem i (by omega) ha
    obtain ⟨l, hl, rfl⟩ := List.mem_map.mp hb
    simp [kGa] at e
    omega
theorem str_ne {a b : Str} {x y : List Int} (h : a ≠ b) : (a, x) ≠ (b, y) := fun e => h (congrArg Prod.fst e)
theorem plcs_nd {n : Nt} : (plcs n).Nodup := by
  refine List.nodup_append.mpr ⟨?_, nd_map kWi_inj _, fun a ha b hb => ?_⟩
  · refine (sortK_perm _).nodup_iff.mpr (List.nodup_append.mpr ⟨List.nodup_append.mpr ⟨nd_map kNx_inj _, nd_map kOu_inj _, fun a ha b hb => ?_⟩, gp_nd _ (Nat.le_refl _), fun a ha b hb => ?_⟩)
    · obtain ⟨i, _, rfl⟩ := List.mem_map.mp ha
      obtain ⟨l, _, rfl⟩ := List.mem_map.mp hb
      exact str_ne (by decide)
    · obtain ⟨g, j, x, q, _, _, rfl⟩ := gp_mem _ (Nat.le_refl _) hb
      rcases List.mem_append.mp ha with ha | ha
      · obtain ⟨i, _, rfl⟩ := List.mem_map.mp ha
        exact str_ne (by decide)
      · obtain ⟨i, _, rfl⟩ := List.mem_map.mp ha
        exact str_ne (by decide)
  · obtain ⟨l, _, rfl⟩ := List.mem_map.mp hb
    have ha := (sortK_perm _).mem_iff.mp ha
    rcases List.mem_append.mp ha with ha | ha
    · rcases List.mem_append.mp ha with ha | ha
      · obtain ⟨i, _, rfl⟩ := List.mem_map.mp ha
        exact str_ne (by decide)
      · obtain ⟨i, _, rfl⟩ := List.mem_map.mp ha
        exact str_ne (by decide)
    · obtain ⟨g, j, x, q, _, _, rfl⟩ := gp_mem _ (Nat.le_refl _) ha
      exact str_ne (by decide)
theorem plcs_len {n : Nt} (h : NOk n) : (plcs n).length ≤ 336 := by
  have h1 := h.i
  have h3 := h.f
  have h5 := h.g
  have hw : n.wires ≤ 108 := by rw [Nt.wires]; omega
  have hr : (sortK (rawB n n.gs.length)).length ≤ 228 := by rw [(sortK_perm _).length_eq]; exact rawB_len h (Nat.le_refl _)
  unfold plcs
  rw [List.length_append, List.length_map, List.length_range]
  omega
end LW
namespace LW
open PySem PySem.Spec PyProof.Rows L2 DL
theorem p_ixok {m : Mem} {i k : Nat} (hm : Ok m) (h : i < k) : m_is_index m [eI i, eI k] = .ok (.bl true) m := by
  rw [show eI i = .int (i : Int) from rfl, show eI k = .int (k : Int) from rfl, p_is_index hm, decide_eq_true (by omega), decide_eq_true (by omega)]
  rfl
def disp3 (a b c : D) : D := .dk [.inr "wire", .inr "next", .inr "out"] [a, b, c]
theorem e_disp3 {env : DL.Env} {m : Mem} {a b c : D} {fa fb fc : FE} (hm : Ok m) (ha : fa env (m ++ [some (.dk [] [])]) = .ok a (m ++ [some (.dk [] [])])) (hb : fb env (m ++ [some (.dk [] [])]) = .ok b (m ++ [some (.dk [] [])])) (hc : fc env (m ++ [some (.dk [] [])]) = .ok c (m ++ [some (.dk [] [])]))
    (la : a.low m.length = true) (lb : b.low m.length = true) (lc : c.low m.length = true) :
    fDisp ((fC (.str "wire"), fa) :: (fC (.str "next"), fb) :: (fC (.str "out"), fc) :: []) env m = .ok (disp3 a b c) m := by
  have hp : fPairs ((fC (.str "wire"), fa) :: (fC (.str "next"), fb) :: (fC (.str "out"), fc) :: []) env (m ++ [some (.dk [] [])]) = .ok [(.str "wire", a), (.str "next", b), (.str "out", c)] (m ++ [some (.dk [] [])]) := by
    simp only [fPairs, fC, R.bind, ha, hb, hc]
  unfold fDisp
  rw [hp, R.bind, cell_get, show keysAll [(D.str "wire", a), (D.str "next", b), (D.str "out", c)] = some [.inr "wire", .inr "next", .inr "out"] from rfl]
  dsimp only
  rw [if_pos (by decide), cell_set]
  exact leave_app hm (low_cons la (low_cons lb (low_cons lc rfl)))
section
variable {m : Mem} {a b c : D}
theorem d3_in1 : opIn m (.str "wire") (disp3 a b c) = .ok (.bl true) m := by with_unfolding_all rfl
theorem d3_in2 : opIn m (.str "next") (disp3 a b c) = .ok (.bl true) m := by with_unfolding_all rfl
theorem d3_in3 : opIn m (.str "out") (disp3 a b c) = .ok (.bl true) m := by with_unfolding_all rfl
theorem d3_ix1 : opIx m (disp3 a b c) (.str "wire") = .ok a m := by with_unfolding_all rfl
theorem d3_ix2 : opIx m (disp3 a b c) (.str "next") = .ok b m := by with_unfolding_all rfl
theorem d3_ix3 : opIx m (disp3 a b c) (.str "out") = .ok c m := by with_unfolding_all rfl
end
theorem isi_tup {m : Mem} {xs : List D} : isiD CS ["tuple"] m (.tup xs) = .ok (.bl true) m := by rw [isi_of (t := "tuple") rfl]; rfl
theorem isi_str {m : Mem} {x : Str} : isiD CS ["str"] m (.str x) = .ok (.bl true) m := by rw [isi_of (t := "str") rfl]; rfl
theorem lt_false {m : Mem} {i j : Int} (h : ¬ i < j) : opLt m (.int i) (.int j) = .ok (.bl false) m := by
  simp [opLt, h]
theorem eq_t {m : Mem} {i j : Int} (h : i = j) : opEq m (.int i) (.int j) = .ok (.bl true) m := by rw [h]; exact eq_int
theorem ne_str {m : Mem} {a b : Str} (h : a ≠ b) : opEq m (.str a) (.str b) = .ok (.bl false) m := by rw [eq_str, decide_eq_false h]
theorem p_has_two {m : Mem} {n : Nt} {key : Str} {i k : Nat} (hm : Ok m) (hk : key ≠ "gate") (hi : i < k) (h1 : opIn m (.str key) (disp3 (eI n.wires) (eI n.first.length) (eI n.ou.length)) = .ok (.bl true) m) (h2 : opIx m (disp3 (eI n.wires) (eI n.first.length) (eI n.ou.length)) (.str key) = .ok (eI k) m) :
    m_has_place m [eObj n, .tup [.str key, eI i]] = .ok (.bl true) m := by
  refine fn_rt rfl (d := .bl true) (m' := m) ?_ (leave_same hm rfl)
  unfold b_has_place
  refine e_seq (e_skip (e_tor0 (e_tnot (e_tr (e_f1 (e_var rfl) isi_tup) rfl)) (e_tor0 (e_fB (e_bin (e_call1 (e_var rfl) len_tup) e_c (lt_false (by simp)))) (e_tnot (e_tr (e_f1 (e_bin (e_var rfl) e_c (ix_tup (at0 _ _))) isi_str) rfl))))) ?_
  refine e_seq (e_skip (e_fB (e_bin (e_bin (e_var rfl) e_c (ix_tup (at0 _ _))) e_c (ne_str hk)))) ?_
  refine e_seq (e_set (e_disp3 hm (e_fld (e_var rfl) fld_wires) (e_fld (e_var rfl) fld_latches) (e_call1 (e_fld (e_var rfl) fld_outs) len_eW) rfl rfl rfl)) ?_
  exact e_ret (e_and1 (e_bin (e_bin (e_var rfl) e_c (ix_tup (at0 _ _))) (e_var rfl) h1) (e_and1 (e_bin (e_call1 (e_var rfl) len_tup) e_c (eq_t (by simp))) (e_app (e_cons (e_bin (e_var rfl) e_c (ix_tup (at1 _ _ _))) (e_cons (e_bin (e_var rfl) (e_bin (e_var rfl) e_c (ix_tup (at0 _ _))) h2) e_nil)) (p_ixok hm hi))))
theorem p_has_place {m : Mem} {n : Nt} {k : TK} (hm : Ok m) (h : PlOk n k) : m_has_place m [eObj n, tkD k] = .ok (.bl true) m := by
  rcases h with ⟨g, i, x, hg, hi, rfl⟩ | ⟨i, hi, rfl⟩ | ⟨i, hi, rfl⟩ | ⟨i, hi, rfl⟩
  · have hgl := (List.getElem?_eq_some_iff.mp hg).1
    show m_has_place m [eObj n, .tup [.str "gate", eI g, eI i]] = _
    refine fn_rt rfl (d := .bl true) (m' := m) ?_ (leave_same hm rfl)
    unfold b_has_place
    refine e_seq (e_skip (e_tor0 (e_tnot (e_tr (e_f1 (e_var rfl) isi_tup) rfl)) (e_tor0 (e_fB (e_bin (e_call1 (e_var rfl) len_tup) e_c (lt_false (by simp)))) (e_tnot (e_tr (e_f1 (e_bin (e_var rfl) e_c (ix_tup (at0 _ _))) isi_str) rfl))))) ?_
    refine e_seqR (e_ifS1 (e_fB (e_bin (e_bin (e_var rfl) e_c (ix_tup (at0 _ _))) e_c (by rw [eq_str]; rfl))) ?_)
    refine e_seq (e_set (e_and1 (e_bin (e_call1 (e_var rfl) len_tup) e_c (eq_t (by simp))) (e_app (e_cons (e_bin (e_var rfl) e_c (ix_tup (at1 _ _ _))) (e_cons (e_call1 (e_fld (e_var rfl) fld_gates) len_gs) e_nil)) (p_ixok hm hgl)))) ?_
    exact e_ret (e_and1 (e_var rfl) (e_app (e_cons (e_bin (e_var rfl) e_c (ix_tup (at2 _ _ _ _))) (e_cons (e_call1 (e_bin (e_bin (e_fld (e_var rfl) fld_gates) (e_bin (e_var rfl) e_c (ix_tup (at1 _ _ _))) (ix_gs hg)) e_c (ix_tup (at1 _ _ _))) len_eW) e_nil)) (p_ixok hm hi)))
  · exact p_has_two (key := "wire") hm (by decide) hi d3_in1 d3_ix1
  · exact p_has_two (key := "next") hm (by decide) hi d3_in2 d3_ix2
  · exact p_has_two (key := "out") hm (by decide) hi d3_in3 d3_ix3
def keyK (k : TK) : List Key := .inr k.1 :: k.2.map .inl
theorem keysD_tk (k : TK) : keysD (.str k.1 :: k.2.map D.int) = some (keyK k) := by
  obtain ⟨x, is⟩ := k
  have e : ∀ is : List Int, keysD (is.map D.int) = some (is.map Sum.inl) := by
    intro is
    induction is with
    | nil => rfl
    | cons i is ih =>
      show (match keyD (.int i), keysD (is.map D.int) with | some k, some ks => some (k :: ks) | _, _ => none) = _
      rw [ih]
      rfl
  show (match keyD (.str x), keysD (is.map D.int) with | some k, some ks => some (k :: ks) | _, _ => none) = _
  rw [e]
  rfl
theorem inl_inj : ∀ xs ys : List Int, xs.map (Sum.inl : Int → Key) = ys.map Sum.inl → xs = ys
  | [], [], _ => rfl
  | [], _ :: _, h => by cases h
  | _ :: _, [], h => by cases h
  | x :: xs, y :: ys, h => by
    rw [List.map_cons, List.map_cons] at h
    injection h with h1 h2
    injection h1 with h1
    rw [h1, inl_inj xs ys h2]
theorem keyK_inj {a b : TK} (h : keyK a = keyK b) : a = b := by
  obtain ⟨x, is⟩ := a
  obtain ⟨y, js⟩ := b
  unfold keyK at h
  injection h with h1 h2
  injection h1 with h1
  have h1 : x = y := h1
  rw [h1, inl_inj is js h2]
def hsOf (b : Bool) (ks : List TK) : Hs := ks.map fun k => (keyK k, b)
theorem allS_hs {b : Bool} {ks : List TK} : AllS b (hsOf b ks) := fun p hp => by
  obtain ⟨k, _, rfl⟩ := List.mem_map.mp hp
  rfl
def eHurt (b : Bool) (k : TK) : D := .tup [tkD k, eB b]
def cH (hs : Hs) : C := .dt (hs.map (·.1)) (hs.map fun p => eB p.2)
theorem low_cH {k : Nat} {hs : Hs} : (cH hs).low k = true := lowL_map fun p _ => rfl
theorem e_store {env : DL.Env} {m m1 m2 m3 m4 : Mem} {y d k : D} {fo fi fe : FE} (he : fe env m = .ok y m1) (ho : fo env m1 = .ok d m2) (hi : fi env m2 = .ok k m3) (hs : setD m3 d k y = some m4) : fStore fo fi fe env m = .nx env m4 := by
  unfold fStore
  rw [he, R.bindS, ho, R.bindS, hi, R.bindS, hs]
theorem in_hs {m : Mem} {hs : Hs} {k : TK} (h : ∀ p ∈ hs, p.1 ≠ keyK k) : opIn (m ++ [some (cH hs)]) (tkD k) (.cel m.length) = .ok (.bl false) (m ++ [some (cH hs)]) := by
  have e1 : seqOf (m ++ [some (cH hs)]) (.cel m.length) = none := by simp only [seqOf, rlstOf, lstOf, cell_get, cH]
  have e2 : dicOf (m ++ [some (cH hs)]) (.cel m.length) = some (.t (hs.map (·.1)) (hs.map fun p => eB p.2)) := by simp only [dicOf, cell_get, cH]
  have e3 : hs.find? (fun p => decide (p.1 = keyK k)) = none := by
    rw [List.find?_eq_none]
    intro p hp
    simp [h p hp]
  have e4 : inD (m ++ [some (cH hs)]) (tkD k) (.cel m.length) = some false := by
    show (match seqOf (m ++ [some (cH hs)]) (.cel m.length) with | some xs => _ | none => match dicOf (m ++ [some (cH hs)]) (.cel m.length) with | some c => (dicGet c (tkD k)).map _ | none => none) = _
    rw [e1, e2]
    dsimp only
    show ((((keysD (.str k.1 :: k.2.map D.int)).map fun q => zfind (hs.map (·.1)) (hs.map fun p => eB p.2) q)).map fun o => o.isSome) = _
    rw [keysD_tk, Option.map_some, zfind_hs, e3]
    rfl
  unfold opIn
  rw [e4]
theorem set_hs {m : Mem} {hs : Hs} {k : TK} {b : Bool} (h : ∀ p ∈ hs, p.1 ≠ keyK k) (hl : hs.length ≤ 1000) : setD (m ++ [some (cH hs)]) (.cel m.length) (tkD k) (eB b) = some (m ++ [some (cH (hs ++ [(keyK k, b)]))]) := by
  have hk : hasK (hs.map (·.1)) (keyK k) = false := by
    cases hq : hasK (hs.map (·.1)) (keyK k) with
    | false => rfl
    | true =>
      obtain ⟨p, hp, e⟩ := List.mem_map.mp (hasK_ok.mp hq)
      exact absurd e (h p hp)
  unfold setD
  dsimp only
  rw [cell_get]
  unfold cH tkD
  dsimp only
  rw [keysD_tk]
  dsimp only
  rw [if_pos (by
    rw [List.length_zip, List.length_map, List.length_map, Nat.min_self, sizeLine_eq]
    omega), hk, cell_set]
  simp
theorem p_is_sign {m : Mem} {b : Bool} (hm : Ok m) : m_is_sign m [eB b] = .ok (.bl true) m := by
  refine fn_rt rfl (d := .bl true) (m' := m) ?_ (leave_same hm rfl)
  unfold b_is_sign
  refine e_ret (e_app (e_cons (e_var rfl) (e_cons e_c (e_cons e_c e_nil))) ?_)
  cases b
  · rw [show eB false = .int 0 from rfl, p_is_between hm]
    rfl
  · rw [show eB true = .int 1 from rfl, p_is_between hm]
    rfl
theorem p_signs_in {m : Mem} {n : Nt} {b : Bool} {ks : List TK} (hm : Ok m) (hk : ∀ k ∈ ks, PlOk n k) (hn : ks.Nodup) (hl : ks.length ≤ 900) : m_signs_in m [eObj n, .lst (ks.map (eHurt b))] = .ok (eH (hsOf b ks)) m := by
  obtain ⟨e', m', hf, ⟨w3, rfl⟩, rfl⟩ := for_map (xs := ks) (e := eHurt b) (tg := tName 3) (fb := fSeq (fIfS (tfOr (tfNot (fTr (fApp m_is_tuple (aCons (fVar 3) (aCons (fC (.int 2)) aNil))))) (tfOr (tfNot (fTr (fApp m_has_place (aCons (fVar 0) (aCons (fBin opIx (fVar 3) (fC (.int 0))) aNil))))) (tfOr (tfNot (fTr (fApp m_is_sign (aCons (fBin opIx (fVar 3) (fC (.int 1))) aNil)))) (fB (fBin opIn (fBin opIx (fVar 3) (fC (.int 0))) (fVar 2)))))) (fRet (fC .non)) fNext) (fStore (fVar 2) (fBin opIx (fVar 3) (fC (.int 0))) (fBin opIx (fVar 3) (fC (.int 1)))))
    (env := [some (eObj n), some (.lst (ks.map (eHurt b))), some (.cel m.length), none]) (m := m ++ [some (cH (hsOf b []))])
    (fun i env m1 => (∃ w3 : Option D, env = [some (eObj n), some (.lst (ks.map (eHurt b))), some (.cel m.length), w3]) ∧ m1 = m ++ [some (cH (hsOf b (ks.take i)))])
    ⟨⟨none, rfl⟩, rfl⟩ (fun i k env m1 hx hI => by
      obtain ⟨⟨w3, rfl⟩, rfl⟩ := hI
      have hok : Ok (m ++ [some (cH (hsOf b (ks.take i)))]) := ok_app hm low_cH
      have hlt := (List.getElem?_eq_some_iff.mp hx).1
      have hne : ∀ p ∈ hsOf b (ks.take i), p.1 ≠ keyK k := by
        intro p hp e
        obtain ⟨q, hq, rfl⟩ := List.mem_map.mp hp
        have e := keyK_inj e
        subst e
        obtain ⟨a, ha, e⟩ := List.mem_iff_getElem.mp hq
        rw [List.getElem_take] at e
        rw [List.length_take] at ha
        have e2 := (List.getElem?_eq_some_iff.mp hx).2
        have := (List.getElem_inj hn).mp (e.trans e2.symm)
        omega
      have ht : m_is_tuple (m ++ [some (cH (hsOf b (ks.take i)))]) [eHurt b k, .int 2] = .ok (.bl true) (m ++ [some (cH (hsOf b (ks.take i)))]) := p_is_tuple (xs := [tkD k, eB b]) hok rfl
      have x0 : ∀ m, opIx m (eHurt b k) (.int 0) = .ok (tkD k) m := fun _ => ix_tup (at0 _ _)
      have x1 : ∀ m, opIx m (eHurt b k) (.int 1) = .ok (eB b) m := fun _ => ix_tup (at1 _ _ _)
      refine ⟨_, rfl, _, _, e_seq (e_skip (e_tor0 (e_tnot (e_trb (e_app (e_cons (e_var rfl) (e_cons e_c e_nil)) ht))) (e_tor0 (e_tnot (e_trb (e_app (e_cons (e_var rfl) (e_cons (e_bin (e_var rfl) e_c (x0 _)) e_nil)) (p_has_place hok (hk k (List.mem_of_getElem? hx)))))) (e_tor0 (e_tnot (e_trb (e_app (e_cons (e_bin (e_var rfl) e_c (x1 _)) e_nil) (p_is_sign hok)))) (e_fB (e_bin (e_bin (e_var rfl) e_c (x0 _)) (e_var rfl) (in_hs hne))))))) (e_store (e_bin (e_var rfl) e_c (x1 _)) (e_var rfl) (e_bin (e_var rfl) e_c (x0 _)) (set_hs hne (by unfold hsOf; rw [List.length_map, List.length_take]; omega))), ⟨_, rfl⟩, ?_⟩
      rw [List.take_succ, hx]
      unfold hsOf
      rw [List.map_append]
      rfl)
  rw [List.take_length] at hf
  refine fn_rt rfl (d := eH (hsOf b ks)) (m' := m ++ [none]) ?_ (leave_app hm (lowL_map fun p _ => rfl))
  unfold b_signs_in
  have hil : m_is_list m [.lst (ks.map (eHurt b))] = .ok (.bl true) m := by
    rw [p_is_list (t := "list") hm rfl]
    rfl
  refine e_seq (e_skip (e_tnot (e_trb (e_app (e_cons (e_var rfl) e_nil) hil)))) ?_
  refine e_seq (e_set (a := .cel m.length) (m1 := m ++ [some (cH (hsOf b []))]) rfl) ?_
  refine e_seq (e_for (e_itrL (e_var rfl)) hf) (e_ret ?_)
  unfold fFz
  rw [e_var rfl, R.bind]
  unfold fzD
  dsimp only
  rw [cell_get]
  dsimp only
  rw [cell_set]
  rfl
theorem none_in {m : Mem} (f : List TK → Hs) (kss : List (List TK)) : opNoneIn m .non (.lst (kss.map fun ks => eH (f ks))) = .ok (.bl false) m := by
  show (if ((kss.map fun ks => eH (f ks)).all noneOk) = true then _ else _) = _
  rw [if_pos (by
    rw [List.all_eq_true]
    intro x hx
    obtain ⟨ks, _, rfl⟩ := List.mem_map.mp hx
    rfl)]
  have e : ((kss.map fun ks => eH (f ks)).any isNonD) = false := by
    rw [List.any_eq_false]
    intro x hx
    obtain ⟨ks, _, rfl⟩ := List.mem_map.mp hx
    simp [eH, isNonD]
  rw [e]
theorem p_hurts_in {m : Mem} {n : Nt} {b : Bool} {kss : List (List TK)} (hm : Ok m) (hk : ∀ ks ∈ kss, (∀ k ∈ ks, PlOk n k) ∧ ks.Nodup ∧ ks.length ≤ 900) (hl : kss.length ≤ 900) : m_hurts_in m [eObj n, .lst (kss.map fun ks => .lst (ks.map (eHurt b))), eI kss.length] = .ok (.lst (kss.map fun ks => eH (hsOf b ks))) m := by
  have hlc : lcGo (.its (kss.map fun ks => D.lst (ks.map (eHurt b)))) (tName 4) fYes (fApp m_signs_in (aCons (fVar 0) (aCons (fVar 4) aNil))) (wipeE (startE 5 [eObj n, .lst (kss.map fun ks => .lst (ks.map (eHurt b))), eI kss.length]) [4]) ((kss.map fun ks => D.lst (ks.map (eHurt b))).length + 1) 0 [] m = .ok (kss.map fun ks => eH (hsOf b ks)) m := by
    rw [lc_map (fun i d => match kss[i]? with | some ks => eH (hsOf b ks) | none => .non) (by rw [List.length_map]; exact lz (by omega))]
    · congr 1
      apply List.ext_getElem?
      intro i
      rw [List.getElem?_mapIdx, List.getElem?_map, List.getElem?_map]
      cases kss[i]? with
      | none => rfl
      | some ks => rfl
    · intro i d hd
      rw [List.getElem?_map] at hd
      cases hx : kss[i]? with
      | none => rw [hx] at hd; cases hd
      | some ks =>
        rw [hx] at hd
        cases hd
        obtain ⟨a, b', c⟩ := hk ks (List.mem_of_getElem? hx)
        exact ⟨_, rfl, rfl, e_app (e_cons (e_var rfl) (e_cons (e_var rfl) e_nil)) (p_signs_in hm a b' c)⟩
  have hlow : (D.lst (kss.map fun ks => eH (hsOf b ks))).low m.length = true := lowL_map fun ks _ => lowL_map fun _ _ => rfl
  refine fn_rt rfl (d := .lst (kss.map fun ks => eH (hsOf b ks))) (m' := m) ?_ (leave_same hm hlow)
  unfold b_hurts_in
  have hil : m_is_list m [.lst (kss.map fun ks => D.lst (ks.map (eHurt b)))] = .ok (.bl true) m := by
    rw [p_is_list (t := "list") hm rfl]
    rfl
  have hne : opNe m (.int (kss.map fun ks => D.lst (ks.map (eHurt b))).length) (eI kss.length) = .ok (.bl false) m := by
    rw [List.length_map]
    exact ne_int
  refine e_seq (e_skip (e_tor0 (e_tnot (e_trb (e_app (e_cons (e_var rfl) e_nil) hil))) (e_fB (e_bin (e_call1 (e_var rfl) len_lst) (e_var rfl) hne)))) ?_
  refine e_seq (e_set (e_lc (e_itrL (e_var rfl)) hlc)) ?_
  exact e_ret (e_if0 (e_fB (e_bin e_c (e_var rfl) (none_in _ _))) (e_var rfl))
theorem p_need_hurts {m : Mem} {n : Nt} {b : Bool} {kss : List (List TK)} (hm : Ok m) (hk : ∀ ks ∈ kss, (∀ k ∈ ks, PlOk n k) ∧ ks.Nodup ∧ ks.length ≤ 900) (hl : kss.length ≤ 900) : m_need_hurts m [eObj n, .lst (kss.map fun ks => .lst (ks.map (eHurt b))), eI kss.length] = .ok (.lst (kss.map fun ks => eH (hsOf b ks))) m := by
  have hlow : (D.lst (kss.map fun ks => eH (hsOf b ks))).low m.length = true := lowL_map fun ks _ => lowL_map fun _ _ => rfl
  refine fn_rt rfl (d := .lst (kss.map fun ks => eH (hsOf b ks))) (m' := m) ?_ (leave_same hm hlow)
  unfold b_need_hurts
  refine e_seq (e_set (e_app (e_cons (e_var rfl) (e_cons (e_var rfl) (e_cons (e_var rfl) e_nil))) (p_hurts_in hm hk hl))) ?_
  refine e_seq (e_skip (e_fB (e_bin (e_var rfl) e_c (is_of rfl)))) ?_
  exact e_ret (e_var rfl)
end LW
namespace LW
open PySem PySem.Spec PyProof.Rows L2 DL
def xHurt : FS := fSeq (fAsg (fTup (aCons (fLc (fRng1 (aCons (fBin opAdd (fC (.int 1)) (fApp m__law_take (aCons (fVar 0) (aCons (fC (.int 4)) aNil)))) aNil)) [6] (tName 6) fYes (fApp m__law_word (aCons (fVar 0) (aCons (fBin opIx (fVar 1) (fC (.int 0))) aNil)))) (aCons (fApp m__law_places (aCons (fVar 1) aNil)) aNil))) (tTupG 2 (tConsG (tName 4) (tConsG (tName 5) tNilG)))) (fSeq (fSet 7 (fLc (fItr (fVar 4)) [8] (tName 8) fYes (fLc (fItr (fSl (fApp m__law_mixed (aCons (fVar 0) (aCons (fVar 5) aNil))) oNone (oSome (fApp m__law_take (aCons (fVar 0) (aCons (fC (.int 5)) aNil)))))) [9] (tName 9) fYes (fTup (aCons (fVar 9) (aCons (fVar 3) aNil)))))) (fSeq (fSet 10 (fIf (fB (fBin opEq (fVar 3) (fC (.int 0)))) (fApp m_top (aCons (fVar 2) aNil)) (fApp m_bottom (aCons (fVar 2) aNil)))) (fSeq (fSet 11 (fLst (aCons (fBin opAdd (fApp m_run (aCons (fVar 2) (aCons (fVar 4) (aCons (fVar 7) aNil)))) (fLst (aCons (fApp m_latch_behind (aCons (fVar 2) (aCons (fVar 4) (aCons (fVar 7) aNil)))) aNil))) (aCons (fBin opAdd (fApp m_run (aCons (fVar 10) (aCons (fVar 4) (aCons (fLc (fItr (fVar 4)) [8] (tName 8) fYes (fLst aNil)) aNil)))) (fLst (aCons (fApp m_latch_behind (aCons (fVar 10) (aCons (fVar 4) (aCons (fLc (fItr (fVar 4)) [8] (tName 8) fYes (fLst aNil)) aNil)))) aNil))) aNil)))) (fSeq (fAsg (fIf (fB (fBin opEq (fVar 3) (fC (.int 0)))) (fTup (aCons (fBin opIx (fVar 11) (fC (.int 0))) (aCons (fBin opIx (fVar 11) (fC (.int 1))) aNil))) (fTup (aCons (fBin opIx (fVar 11) (fC (.int 1))) (aCons (fBin opIx (fVar 11) (fC (.int 0))) aNil)))) (tTupG 2 (tConsG (tName 12) (tConsG (tName 13) tNilG)))) (fIfS (tfOr (fB (fBin opNe (fCall (op1 opLen) (aCons (fVar 12) aNil)) (fBin opAdd (fCall (op1 opLen) (aCons (fVar 4) aNil)) (fC (.int 1))))) (fB (fBin opNe (fLc (fRng1 (aCons (fCall (op1 opLen) (aCons (fVar 12) aNil)) aNil)) [6] (tName 6) (tfNot (fTr (fApp m__law_in (aCons (fBin opIx (fVar 12) (fVar 6)) (aCons (fBin opIx (fVar 13) (fVar 6)) aNil))))) (fVar 6)) (fLst aNil)))) (fRet (fC (.bl false))) fNext)))))
theorem b_hurt_eq : b__law_hurt_right = fSeq (fFor (fRng1 (aCons (fC (.int 2)) aNil)) (tName 3) xHurt) (fRet (fC (.bl true))) := rfl
theorem sg_one {m : Mem} {b : Bool} : opEq m (sg b) (.str "1") = .ok (.bl b) m := by cases b <;> with_unfolding_all rfl
theorem sg_zero {m : Mem} {b : Bool} : opEq m (sg b) (.str "0") = .ok (.bl (!b)) m := by cases b <;> with_unfolding_all rfl
theorem p_in {m : Mem} {a c : List Bool} (hm : Ok m) (hl : a.length = c.length) (h1 : a.length ≤ 1000) (h : ∀ i, a.getD i false = true → c.getD i false = true) : m__law_in m [eS a, eS c] = .ok (.bl true) m := by
  refine fn_rt rfl (d := .bl true) (m' := m) ?_ (leave_same hm rfl)
  unfold b__law_in
  refine e_ret (e_bin (e_lc (es := []) (e_rng (n := a.length) (by omega) (e_call1 (e_var rfl) (len_bits h1))) ?_) (e_lst e_nil (lz (by simp))) eq_nil)
  refine lc_none (by rw [rangeD_len]; exact lz h1) fun d hd => ?_
  obtain ⟨i, hi, rfl⟩ := rangeD_mem hd
  refine ⟨_, rfl, ?_⟩
  cases ha : a.getD i false with
  | false => exact e_tand0 (e_fB (e_bin (e_bin (e_var rfl) (e_var rfl) (ix_bits h1 hi)) e_c (by rw [ha]; exact sg_one)))
  | true => exact e_tand1 (e_fB (e_bin (e_bin (e_var rfl) (e_var rfl) (ix_bits h1 hi)) e_c (by rw [ha]; exact sg_one))) (e_fB (e_bin (e_bin (e_var rfl) (e_var rfl) (ix_bits (by omega) (by omega))) e_c (by rw [h i ha]; exact sg_zero)))
/-- hurts of one beat -/
def KsOk (n : Nt) (ks : List TK) : Prop := (∀ k ∈ ks, PlOk n k) ∧ ks.Nodup ∧ ks.length ≤ 900
theorem kss_of {n : Nt} {b : Bool} : ∀ (ds : List D), (∀ d ∈ ds, ∃ ks, KsOk n ks ∧ d = .lst (ks.map (eHurt b))) → ∃ kss : List (List TK), ds = kss.map (fun ks => .lst (ks.map (eHurt b))) ∧ ∀ ks ∈ kss, KsOk n ks
  | [], _ => ⟨[], rfl, by simp⟩
  | d :: ds, h => by
    obtain ⟨kss, rfl, hw⟩ := kss_of ds fun x hx => h x (List.mem_cons_of_mem _ hx)
    obtain ⟨ks, h1, rfl⟩ := h d List.mem_cons_self
    refine ⟨ks :: kss, rfl, fun x hx => ?_⟩
    rcases List.mem_cons.mp hx with rfl | hx
    · exact h1
    · exact hw x hx
theorem low_tk (k : TK) (i : Nat) : (tkD k).low i = true := by
  show lowL i (.str k.1 :: k.2.map .int) = true
  exact low_cons rfl (lowL_map fun _ _ => rfl)
theorem sl_lst {m : Mem} {xs : List D} {lo hi : Option Int} : slD m lo hi (.lst xs) = .ok (.lst (DL.cutD xs lo hi)) m := rfl
theorem cut_map {α : Type} (e : α → D) (ys : List α) (lo hi : Option Int) : ∃ zs : List α, zs.Sublist ys ∧ DL.cutD (ys.map e) lo hi = zs.map e := by
  unfold DL.cutD
  rw [← List.map_drop, ← List.map_take]
  exact ⟨_, (List.take_sublist _ _).trans (List.drop_sublist _ _), rfl⟩
def xBeat : FE := fLc (fItr (fSl (fApp m__law_mixed (aCons (fVar 0) (aCons (fVar 5) aNil))) oNone (oSome (fApp m__law_take (aCons (fVar 0) (aCons (fC (.int 5)) aNil)))))) [9] (tName 9) fYes (fTup (aCons (fVar 9) (aCons (fVar 3) aNil)))
theorem d_beat {j c : Nat} {base m : Mem} {n : Nt} {b : Bool} {env : DL.Env} (hb : Ok base) (hj : j < base.length) (hx : Bx j c base m) (hc : c < 800000) (h : NOk n) (e0 : env[0]? = some (some (.cel j))) (e5 : env[5]? = some (some (.lst ((plcs n).map tkD)))) (e3 : ∀ d, ((wipeE env [9]).set 9 (some d))[3]? = some (some (eB b))) (e9 : ∀ d, ((wipeE env [9]).set 9 (some d))[9]? = some (some d)) :
    ∃ ks m', KsOk n ks ∧ xBeat env m = .ok (.lst (ks.map (eHurt b))) m' ∧ Bx j (c + 337) base m' := by
  have hp := plcs_len h
  obtain ⟨ys, m1, hperm, hmx, hx1⟩ := p_mixed (e := tkD) (xs := plcs n) low_tk hb hj hx (by omega) (by omega)
  obtain ⟨r, m2, hr, htk, hx2⟩ := e_take (many := 5) (env := env) (fb := fVar 0) (fe := fC (.int 5)) hb hj hx1 (by omega) (by omega) (by omega) (e_var e0) rfl
  obtain ⟨zs, hsub, hcut⟩ := cut_map tkD ys none (some (r : Int))
  have hzl : zs.length ≤ 336 := by
    have := hsub.length_le
    rw [hperm.length_eq] at this
    omega
  refine ⟨zs, m2, ⟨fun k hk => plcs_ok h k (hperm.mem_iff.mp (hsub.subset hk)), hsub.nodup (hperm.nodup_iff.mpr plcs_nd), by omega⟩, ?_, hx2.le (by omega)⟩
  unfold xBeat
  refine e_lc (e_itrL (e_sl (e_app (e_cons (e_var e0) (e_cons (e_var e5) e_nil)) hmx) rfl (e_some htk) (sl_lst.trans (by rw [hcut])))) ?_
  rw [lc_map' (fun d => .tup [d, eB b]) (by rw [List.length_map]; exact lz (by omega))]
  · rw [List.map_map]
    rfl
  · intro d hd
    exact ⟨_, rfl, rfl, e_tup (e_cons (e_var (e9 _)) (e_cons (e_var (e3 _)) e_nil)) (lz (by simp))⟩
theorem run_way {m : Mem} {n : Nt} {b : Bool} {ws : List (List Bool)} {kss : List (List TK)} {env : DL.Env} {fn fw fh fh2 : FE} (hm : Ok m) (h : NOk n) (hl : kss.length = ws.length) (hwl : ws.length ≤ 200) (hw : ∀ w ∈ ws, w.length = n.ins) (hk : ∀ ks ∈ kss, KsOk n ks)
    (en : fn env m = .ok (eObj n) m) (ew : fw env m = .ok (.lst (ws.map eS)) m) (eh : fh env m = .ok (.lst (kss.map fun ks => .lst (ks.map (eHurt b)))) m) (eh2 : fh2 env m = .ok (.lst (kss.map fun ks => .lst (ks.map (eHurt b)))) m) :
    ∃ ps : Ps, ps.length = ws.length ∧ (∀ p ∈ ps, AllS b p.2) ∧ (ps.map fun p => (p.1, ([] : Hs))) = (ws.map fun w => (w, [])) ∧ ps = (ws.zip kss).map (fun q => (q.1, hsOf b q.2)) ∧
    fBin opAdd (fApp m_run (aCons fn (aCons fw (aCons fh aNil)))) (fLst (aCons (fApp m_latch_behind (aCons fn (aCons fw (aCons fh2 aNil)))) aNil)) env m = .ok (.lst (((runF n n.first ps).2 ++ [(runF n n.first ps).1]).map eS)) m := by
  have w0 : (ws.zip kss).map Prod.fst = ws := List.map_fst_zip (by omega)
  have w1 : (((ws.zip kss).map fun q => (q.1, hsOf b q.2)).map fun p => eS p.1) = ws.map eS := by
    rw [List.map_map]
    conv => rhs; rw [← w0, List.map_map]
    rfl
  have w2 : (((ws.zip kss).map fun q => (q.1, hsOf b q.2)).map fun p => eH p.2) = kss.map fun ks => eH (hsOf b ks) := by
    rw [List.map_map]
    have := List.map_snd_zip (l₁ := ws) (l₂ := kss) (by omega)
    conv => rhs; rw [← this, List.map_map]
    rfl
  have w3 : ((ws.zip kss).map fun q => (q.1, hsOf b q.2)).length = ws.length := by
    rw [List.length_map, List.length_zip]
    omega
  have hw' : ∀ p ∈ (ws.zip kss).map (fun q => (q.1, hsOf b q.2)), p.1.length = n.ins := by
    intro p hp
    obtain ⟨q, hq, rfl⟩ := List.mem_map.mp hp
    exact hw q.1 (List.of_mem_zip (a := q.1) (b := q.2) hq).1
  have n1 := p_need_net (n := n) hm
  have n2 := p_need_words (least := 0) hm h (wds_lst (ws := ws)) (by omega) (by omega) hw
  have n3 := p_need_hurts (b := b) hm hk (by omega)
  rw [← w1] at n2
  rw [← w2, hl, ← w3] at n3
  have r1 := p_run hm h (by rw [w3]; omega) hw' n1 n2 n3
  have r2 := p_latch hm h (by rw [w3]; omega) hw' n1 n2 n3
  rw [w1] at r1 r2
  have hr := (runF_len h rfl ((ws.zip kss).map fun q => (q.1, hsOf b q.2))).2.1
  refine ⟨_, w3, ?_, ?_, rfl, ?_⟩
  · intro p hp
    obtain ⟨q, hq, rfl⟩ := List.mem_map.mp hp
    exact allS_hs
  · rw [List.map_map]
    conv => rhs; rw [← w0, List.map_map]
    rfl
  · refine e_bin (e_app (e_cons en (e_cons ew (e_cons eh e_nil))) r1) (e_lst (e_cons (e_app (e_cons en (e_cons ew (e_cons eh2 e_nil))) r2) e_nil) (lz (by simp))) ?_
    rw [add_lists (by rw [List.length_map, hr, w3]; simp; omega), List.map_append]
    rfl
end LW
namespace LW
open PySem PySem.Spec PyProof.Rows L2 DL
theorem eq01 {m : Mem} {b : Bool} : opEq m (eB b) (.int 0) = .ok (.bl (!b)) m := by cases b <;> rfl
theorem getD_snoc {α : Type} {d : α} (xs : List α) (x : α) (i : Nat) : (xs ++ [x]).getD i d = if i < xs.length then xs.getD i d else if i = xs.length then x else d := by
  rw [List.getD_eq_getElem?_getD, List.getElem?_append]
  by_cases h : i < xs.length
  · rw [if_pos h, if_pos h, ← List.getD_eq_getElem?_getD]
  · rw [if_neg h, if_neg h]
    by_cases h2 : i = xs.length
    · rw [if_pos h2, h2, Nat.sub_self]
      rfl
    · rw [if_neg h2]
      obtain ⟨k, hk⟩ : ∃ k, i - xs.length = k + 1 := ⟨i - xs.length - 1, by omega⟩
      rw [hk]
      rfl
theorem ix_words {m : Mem} {xs : List (List Bool)} {i : Nat} (h : i < xs.length) : opIx m (.lst (xs.map eS)) (eI i) = .ok (eS (xs.getD i [])) m := by
  refine ix_lst ?_
  rw [atI_nat, List.getElem?_map, List.getD_eq_getElem?_getD, List.getElem?_eq_getElem h]
  rfl
/-- the last test: less lies in more -/
def xTest : FS := fIfS (tfOr (fB (fBin opNe (fCall (op1 opLen) (aCons (fVar 12) aNil)) (fBin opAdd (fCall (op1 opLen) (aCons (fVar 4) aNil)) (fC (.int 1))))) (fB (fBin opNe (fLc (fRng1 (aCons (fCall (op1 opLen) (aCons (fVar 12) aNil)) aNil)) [6] (tName 6) (tfNot (fTr (fApp m__law_in (aCons (fBin opIx (fVar 12) (fVar 6)) (aCons (fBin opIx (fVar 13) (fVar 6)) aNil))))) (fVar 6)) (fLst aNil)))) (fRet (fC (.bl false))) fNext
theorem ne_nil {m : Mem} : opNe m (.lst []) (.lst []) = .ok (.bl false) m := by with_unfolding_all rfl
theorem d_test {m : Mem} {env : DL.Env} {less more ws : List (List Bool)} (hm : Ok m) (hl : less.length = ws.length + 1) (hlm : more.length = less.length) (hwl : ws.length ≤ 200) (hh : ∀ i, i < less.length → (less.getD i []).length = (more.getD i []).length ∧ (less.getD i []).length ≤ 1000 ∧ ∀ k, (less.getD i []).getD k false = true → (more.getD i []).getD k false = true)
    (e12 : env[12]? = some (some (.lst (less.map eS)))) (e4 : env[4]? = some (some (.lst (ws.map eS)))) (f12 : ∀ d, ((wipeE env [6]).set 6 (some d))[12]? = some (some (.lst (less.map eS)))) (f13 : ∀ d, ((wipeE env [6]).set 6 (some d))[13]? = some (some (.lst (more.map eS)))) (f6 : ∀ d, ((wipeE env [6]).set 6 (some d))[6]? = some (some d)) :
    xTest env m = .nx env m := by
  have l1 : opLen m (.lst (less.map eS)) = .ok (eI less.length) m := wds_lst.ln
  have l2 : opLen m (.lst (ws.map eS)) = .ok (eI ws.length) m := wds_lst.ln
  have a1 : opAdd m (eI ws.length) (.int 1) = .ok (eI less.length) m := by
    rw [show (D.int 1) = eI 1 from rfl, add_nat, hl]
  unfold xTest
  refine e_skip (e_tor0 (e_fB (e_bin (e_call1 (e_var e12) l1) (e_bin (e_call1 (e_var e4) l2) e_c a1) ne_int)) (e_fB (e_bin (e_lc (es := []) (e_rng (n := less.length) (by omega) (e_call1 (e_var e12) l1)) ?_) (e_lst e_nil (lz (by simp))) ne_nil)))
  refine lc_none (by rw [rangeD_len]; exact lz (by omega)) fun d hd => ?_
  obtain ⟨i, hi, rfl⟩ := rangeD_mem hd
  obtain ⟨h1, h2, h3⟩ := hh i hi
  exact ⟨_, rfl, e_tnot (e_trb (e_app (e_cons (e_bin (e_var (f12 _)) (e_var (f6 _)) (ix_words hi)) (e_cons (e_bin (e_var (f13 _)) (e_var (f6 _)) (ix_words (by omega))) e_nil)) (p_in hm h1 h2 h3)))⟩
theorem top_sN {m : Mem} {n : Nt} {b : Bool} {env : DL.Env} (hm : Ok m) (h : NOk n) (e3 : env[3]? = some (some (eB b))) (e2 : env[2]? = some (some (eObj n))) : fIf (fB (fBin opEq (fVar 3) (fC (.int 0)))) (fApp m_top (aCons (fVar 2) aNil)) (fApp m_bottom (aCons (fVar 2) aNil)) env m = .ok (eObj (endN (sN b) n)) m := by
  cases b with
  | false => exact e_if1 (e_fB (e_bin (e_var e3) e_c eq01)) (e_app (e_cons (e_var e2) e_nil) (p_top hm h))
  | true => exact e_if0 (e_fB (e_bin (e_var e3) e_c eq01)) (e_app (e_cons (e_var e2) e_nil) (p_bottom hm h))
theorem lc_empties {m : Mem} {ws : List (List Bool)} {env : DL.Env} (hwl : ws.length ≤ 200) (e4 : env[4]? = some (some (.lst (ws.map eS)))) : fLc (fItr (fVar 4)) [8] (tName 8) fYes (fLst aNil) env m = .ok (.lst ((ws.map fun _ => ([] : List TK)).map fun ks => .lst (ks.map (eHurt true)))) m := by
  refine e_lc (e_itrL (e_var e4)) ?_
  rw [lc_map' (fun _ => .lst []) (by rw [List.length_map]; exact lz (by omega))]
  · rw [List.map_map, List.map_map]
    rfl
  · intro d hd
    exact ⟨_, rfl, rfl, e_lst e_nil (lz (by simp))⟩
def wayF (n : Nt) (ps : Ps) : List (List Bool) := (runF n n.first ps).2 ++ [(runF n n.first ps).1]
theorem way_len {n : Nt} (h : NOk n) (ps : Ps) : (wayF n ps).length = ps.length + 1 := by
  unfold wayF
  rw [List.length_append, (runF_len h rfl ps).2.1]
  rfl
theorem way_short {n : Nt} (h : NOk n) (ps : Ps) (i : Nat) : ((wayF n ps).getD i []).length ≤ 1000 := by
  obtain ⟨a, b, c⟩ := runF_len h rfl ps
  have hf := h.f
  have ho := h.ol
  unfold wayF
  rw [getD_snoc]
  split
  · rename_i hi
    rw [List.getD_eq_getElem?_getD, List.getElem?_eq_getElem hi]
    have := c _ (List.getElem_mem hi)
    show ((runF n n.first ps).2[i]).length ≤ 1000
    omega
  · split
    · omega
    · simp
theorem rel_way {b : Bool} {n : Nt} {ps : Ps} (h : NOk n) (hp : ∀ p ∈ ps, AllS b p.2) (i : Nat) : RelL b ((wayF n ps).getD i []) ((wayF (endN (sN b) n) (ps.map fun p => (p.1, []))).getD i []) := by
  obtain ⟨r1, r2⟩ := rel_runF h hp
  have hs : sN b ≤ 1 := by cases b <;> decide
  have l1 := (runF_len h rfl ps).2.1
  have l2 := (runF_len (h.endN hs) rfl (ps.map fun p => (p.1, ([] : Hs)))).2.1
  rw [List.length_map] at l2
  unfold wayF
  rw [getD_snoc, getD_snoc, l1, l2]
  split
  · exact r2 i
  · split
    · exact r1
    · exact RelL.refl
end LW
namespace LW
open PySem PySem.Spec PyProof.Rows L2 DL
theorem zip_empty {b : Bool} : ∀ ws : List (List Bool), (ws.zip (ws.map fun _ => ([] : List TK))).map (fun q => (q.1, hsOf b q.2)) = ws.map fun w => (w, ([] : Hs))
  | [] => rfl
  | w :: ws => by
    rw [List.map_cons, List.zip_cons_cons, List.map_cons, List.map_cons, zip_empty ws]
    rfl
theorem d_hurt {j c : Nat} {base m : Mem} {n : Nt} {b : Bool} {z4 z5 z6 z7 z8 z9 z10 z11 z12 z13 : Option D} (hb : Ok base) (hj : j < base.length) (hx : Bx j c base m) (hc : c < 700000) (h : NOk n) :
    ∃ (w4 w5 w7 w10 w11 w12 w13 : Option D) (m' : Mem), xHurt [some (.cel j), some (eNet n), some (eObj n), some (eB b), z4, z5, z6, z7, z8, z9, z10, z11, z12, z13] m = .nx [some (.cel j), some (eNet n), some (eObj n), some (eB b), w4, w5, z6, w7, z8, z9, w10, w11, w12, w13] m' ∧ Bx j (c + 1445) base m' := by
  have hi := h.i
  have hs : sN b ≤ 1 := by cases b <;> decide
  have hE := h.endN hs
  obtain ⟨r, m1, hr, htk, hx1⟩ := e_take (many := 4) (env := [some (.cel j), some (eNet n), some (eObj n), some (eB b), z4, z5, z6, z7, z8, z9, z10, z11, z12, z13]) (fb := fVar 0) (fe := fC (.int 4)) hb hj hx (by omega) (by omega) (by omega) (e_var rfl) rfl
  obtain ⟨ws, m2, hwl, hww, hlc, hx2⟩ := lc_words (k := 1 + r) (i := 6) (env0 := wipeE [some (.cel j), some (eNet n), some (eObj n), some (eB b), z4, z5, z6, z7, z8, z9, z10, z11, z12, z13] [6]) (n := n) hb hj hx1 (by omega) (by omega) hi (fun _ => rfl) (fun _ => rfl)
  obtain ⟨out, m3, hq, hol, hP, hx3⟩ := lc_box (c := 337) (its := ws.map eS) (tg := tName 8) (fe := xBeat) (env0 := wipeE [some (.cel j), some (eNet n), some (eObj n), some (eB b), some (.lst (ws.map eS)), some (.lst ((plcs n).map tkD)), z6, z7, z8, z9, z10, z11, z12, z13] [8]) (fun d => ∃ ks, KsOk n ks ∧ d = .lst (ks.map (eHurt b))) (by rw [List.length_map]; exact lz (by omega)) (fun d hd n' m' hb' hn' => by
    rw [List.length_map] at hn'
    obtain ⟨ks, m4, hk, he, hx4⟩ := d_beat (b := b) (n := n) (env := (wipeE [some (.cel j), some (eNet n), some (eObj n), some (eB b), some (.lst (ws.map eS)), some (.lst ((plcs n).map tkD)), z6, z7, z8, z9, z10, z11, z12, z13] [8]).set 8 (some d)) hb hj hb' (by omega) h rfl rfl (fun _ => rfl) (fun _ => rfl)
    exact ⟨_, rfl, _, m4, he, ⟨ks, hk, rfl⟩, hx4⟩) hx2
  obtain ⟨kss, rfl, hkk⟩ := kss_of out hP
  rw [List.length_map, List.length_map] at hol
  rw [List.length_map] at hx3
  have hm2 : Ok m2 := hx2.ok hb
  have hm : Ok m3 := hx3.ok hb
  obtain ⟨ps, hpl, hpa, hpe, hpd, hway1⟩ := run_way (m := m3) (n := n) (b := b) (ws := ws) (kss := kss) (env := [some (.cel j), some (eNet n), some (eObj n), some (eB b), some (.lst (ws.map eS)), some (.lst ((plcs n).map tkD)), z6, some (.lst (kss.map fun ks => .lst (ks.map (eHurt b)))), z8, z9, some (eObj (endN (sN b) n)), z11, z12, z13]) (fn := fVar 2) (fw := fVar 4) (fh := fVar 7) (fh2 := fVar 7) hm h hol (by omega) hww hkk (e_var rfl) (e_var rfl) (e_var rfl) (e_var rfl)
  obtain ⟨qs, hql, hqa, hqe, hqd, hway2⟩ := run_way (m := m3) (n := endN (sN b) n) (b := true) (ws := ws) (kss := ws.map fun _ => []) (env := [some (.cel j), some (eNet n), some (eObj n), some (eB b), some (.lst (ws.map eS)), some (.lst ((plcs n).map tkD)), z6, some (.lst (kss.map fun ks => .lst (ks.map (eHurt b)))), z8, z9, some (eObj (endN (sN b) n)), z11, z12, z13]) (fn := fVar 10) (fw := fVar 4) (fh := fLc (fItr (fVar 4)) [8] (tName 8) fYes (fLst aNil)) (fh2 := fLc (fItr (fVar 4)) [8] (tName 8) fYes (fLst aNil)) hm hE (by simp) (by omega) hww (fun ks hk => by
    obtain ⟨w, _, rfl⟩ := List.mem_map.mp hk
    exact ⟨by simp, List.nodup_nil, by simp⟩) (e_var rfl) (e_var rfl) (lc_empties (by omega) rfl) (lc_empties (by omega) rfl)
  rw [zip_empty, ← hpe] at hqd
  subst hqd
  have hrel := rel_way (b := b) h hpa
  have hlh : (wayF n ps).length = ws.length + 1 := by rw [way_len h, hpl]
  have hle : (wayF (endN (sN b) n) (ps.map fun (p : List Bool × Hs) => (p.1, ([] : Hs)))).length = ws.length + 1 := by rw [way_len hE, List.length_map, hpl]
  have w1 : ∀ m, opIx m (.lst [.lst ((wayF n ps).map eS), .lst ((wayF (endN (sN b) n) (ps.map fun (p : List Bool × Hs) => (p.1, ([] : Hs)))).map eS)]) (.int 0) = .ok (.lst ((wayF n ps).map eS)) m := fun _ => ix_lst (at0 _ _)
  have w2 : ∀ m, opIx m (.lst [.lst ((wayF n ps).map eS), .lst ((wayF (endN (sN b) n) (ps.map fun (p : List Bool × Hs) => (p.1, ([] : Hs)))).map eS)]) (.int 1) = .ok (.lst ((wayF (endN (sN b) n) (ps.map fun (p : List Bool × Hs) => (p.1, ([] : Hs)))).map eS)) m := fun _ => ix_lst (at1 _ _ _)
  refine ⟨some (.lst (ws.map eS)), some (.lst ((plcs n).map tkD)), some (.lst (kss.map fun ks => .lst (ks.map (eHurt b)))), some (eObj (endN (sN b) n)), some (.lst [.lst ((wayF n ps).map eS), .lst ((wayF (endN (sN b) n) (ps.map fun (p : List Bool × Hs) => (p.1, ([] : Hs)))).map eS)]), some (.lst ((if b = true then wayF (endN (sN b) n) (ps.map fun (p : List Bool × Hs) => (p.1, ([] : Hs))) else wayF n ps).map eS)), some (.lst ((if b = true then wayF n ps else wayF (endN (sN b) n) (ps.map fun (p : List Bool × Hs) => (p.1, ([] : Hs)))).map eS)), m3, ?_, hx3.le (by omega)⟩
  unfold xHurt
  refine e_seq (e_asg (e_tup (e_cons (e_lc (e_rng (n := 1 + r) (by omega) (e_bin e_c htk (add_nat (a := 1)))) hlc) (e_cons (e_app (e_cons (e_var rfl) e_nil) (p_places hm2 h)) e_nil)) (lz (by simp))) rfl) ?_
  refine e_seq (e_set (e_lc (e_itrL (e_var rfl)) hq)) ?_
  refine e_seq (e_set (top_sN hm h rfl rfl)) ?_
  refine e_seq (e_set (e_lst (e_cons hway1 (e_cons hway2 e_nil)) (lz (by simp)))) ?_
  cases b with
  | false =>
    refine e_seq (e_asg (e_if1 (e_fB (e_bin (e_var rfl) e_c eq01)) (e_tup (e_cons (e_bin (e_var rfl) e_c (w1 _)) (e_cons (e_bin (e_var rfl) e_c (w2 _)) e_nil)) (lz (by simp)))) rfl) ?_
    refine d_test (less := wayF n ps) (more := wayF (endN (sN false) n) (ps.map fun (p : List Bool × Hs) => (p.1, ([] : Hs)))) (ws := ws) hm hlh (by omega) (by omega) (fun i _ => ⟨(hrel i).len, way_short h ps i, fun k => (hrel i).at_ k⟩) rfl rfl (fun _ => rfl) (fun _ => rfl) (fun _ => rfl)
  | true =>
    refine e_seq (e_asg (e_if0 (e_fB (e_bin (e_var rfl) e_c eq01)) (e_tup (e_cons (e_bin (e_var rfl) e_c (w2 _)) (e_cons (e_bin (e_var rfl) e_c (w1 _)) e_nil)) (lz (by simp)))) rfl) ?_
    refine d_test (less := wayF (endN (sN true) n) (ps.map fun (p : List Bool × Hs) => (p.1, ([] : Hs)))) (more := wayF n ps) (ws := ws) hm hle (by omega) (by omega) (fun i _ => ⟨(hrel i).len.symm, way_short hE _ i, fun k => (hrel i).at_ k⟩) rfl rfl (fun _ => rfl) (fun _ => rfl) (fun _ => rfl)
theorem p_hurt {j c : Nat} {base m : Mem} {n : Nt} (hb : Ok base) (hj : j < base.length) (hx : Bx j c base m) (hc : c < 600000) (h : NOk n) :
    ∃ m', m__law_hurt_right m [.cel j, eNet n, eObj n] = .ok (.bl true) m' ∧ Bx j (c + 2890) base m' := by
  obtain ⟨e', m', hf, ⟨w3, w4, w5, w7, w10, w11, w12, w13, rfl⟩, hx'⟩ := for_rng (k := 2) (tg := tName 3) (fb := xHurt) (env := [some (.cel j), some (eNet n), some (eObj n), none, none, none, none, none, none, none, none, none, none, none]) (m := m)
    (fun i env m1 => (∃ w3 w4 w5 w7 w10 w11 w12 w13 : Option D, env = [some (.cel j), some (eNet n), some (eObj n), w3, w4, w5, none, w7, none, none, w10, w11, w12, w13]) ∧ Bx j (c + 1445 * i) base m1)
    ⟨⟨none, none, none, none, none, none, none, none, rfl⟩, hx⟩ (fun i env m1 hi hI => by
      obtain ⟨⟨w3, w4, w5, w7, w10, w11, w12, w13, rfl⟩, hx1⟩ := hI
      rcases (by omega : i = 0 ∨ i = 1) with rfl | rfl
      · obtain ⟨v4, v5, v7, v10, v11, v12, v13, m2, hq, hx2⟩ := d_hurt (b := false) (z4 := w4) (z5 := w5) (z6 := none) (z7 := w7) (z8 := none) (z9 := none) (z10 := w10) (z11 := w11) (z12 := w12) (z13 := w13) hb hj hx1 (by omega) h
        exact ⟨_, rfl, _, m2, hq, ⟨_, _, _, _, _, _, _, _, rfl⟩, hx2.le (by omega)⟩
      · obtain ⟨v4, v5, v7, v10, v11, v12, v13, m2, hq, hx2⟩ := d_hurt (b := true) (z4 := w4) (z5 := w5) (z6 := none) (z7 := w7) (z8 := none) (z9 := none) (z10 := w10) (z11 := w11) (z12 := w12) (z13 := w13) hb hj hx1 (by omega) h
        exact ⟨_, rfl, _, m2, hq, ⟨_, _, _, _, _, _, _, _, rfl⟩, hx2.le (by omega)⟩)
  refine ⟨m', ?_, hx'⟩
  refine fn_rt rfl (d := .bl true) (m' := m') ?_ (leave_len (by rw [hx.len, hx'.len]) (hx'.ok hb) rfl)
  rw [b_hurt_eq]
  exact e_seq (e_for (e_rng (n := 2) (by omega) e_c) hf) (e_ret e_c)
end LW
namespace LW
open PySem PySem.Spec PyProof.Rows L2 DL
section
variable {env : DL.Env} {m m1 : Mem} {fa : FE} {c : Str} {fs : List Str} {ds : List D} {v : D}
theorem e_exprX (ha : fa env m = .ex c fs ds m1) : fExpr fa env m = .ex c fs ds env m1 := by
  unfold fExpr
  rw [ha]
theorem e_setX {i : Nat} (ha : fa env m = .ex c fs ds m1) : fSet i fa env m = .ex c fs ds env m1 := by
  unfold fSet
  rw [ha]
theorem e_raise {f : Str} (ha : fa env m = .ok v m1) : fRaise c f fa env m = .ex c [f] [v] env m1 := by
  unfold fRaise
  rw [ha, R.bindS]
end
def askCls : List Cl := ⟨"InvalidNet", some 4, fun k c fs ds => fRet (fLst (aCons (fC (.str "net")) (aCons (fXf 4 k fs ds "given") aNil)))⟩ :: ⟨"InvalidWords", some 4, fun k c fs ds => fRet (fLst (aCons (fC (.str "words")) (aCons (fXf 4 k fs ds "given") aNil)))⟩ :: ⟨"InvalidSign", some 4, fun k c fs ds => fRet (fLst (aCons (fC (.str "sign")) (aCons (fXf 4 k fs ds "given") aNil)))⟩ :: ⟨"DarkError", none, fun k c fs ds => fRet (fLst (aCons (fC (.str "other")) (aCons (fC .non) aNil)))⟩ :: []
def askBody : FS := fIfS (fB (fBin opEq (fVar 0) (fC (.int 0)))) (fSet 3 (fIf (fTr (fVar 2)) (fAppK m_is_plain [0] (aCons (fBin opIx (fVar 1) (fC (.int 0))) aNil)) (fApp m_is_plain (aCons (fBin opIx (fVar 1) (fC (.int 0))) aNil)))) (fIfS (fB (fBin opEq (fVar 0) (fC (.int 1)))) (fSet 3 (fIf (fTr (fVar 2)) (fAppK m_top [0] (aCons (fBin opIx (fVar 1) (fC (.int 0))) aNil)) (fApp m_top (aCons (fBin opIx (fVar 1) (fC (.int 0))) aNil)))) (fIfS (fB (fBin opEq (fVar 0) (fC (.int 2)))) (fSet 3 (fIf (fTr (fVar 2)) (fAppK m_bottom [0] (aCons (fBin opIx (fVar 1) (fC (.int 0))) aNil)) (fApp m_bottom (aCons (fBin opIx (fVar 1) (fC (.int 0))) aNil)))) (fIfS (fTr (fVar 2)) (fSet 3 (fAppK m_extreme [2, 1, 0] (aCons (fBin opIx (fVar 1) (fC (.int 2))) (aCons (fBin opIx (fVar 1) (fC (.int 1))) (aCons (fBin opIx (fVar 1) (fC (.int 0))) aNil))))) (fSet 3 (fApp m_extreme (aCons (fBin opIx (fVar 1) (fC (.int 0))) (aCons (fBin opIx (fVar 1) (fC (.int 1))) (aCons (fBin opIx (fVar 1) (fC (.int 2))) aNil))))))))
theorem b_asked_eq : b__law_asked = fSeq (fTry XS hit askCls askBody) (fRet (fLst (aCons (fC (.str "told")) (aCons (fVar 3) aNil)))) := rfl
theorem isnt_net {m : Mem} {v : D} {t : String} (h : tyD m v = some t) : isiC CS "Net" m v = .ok (.bl false) m := by
  cases v with
  | obj c fs ds => cases h
  | _ => simp [isiC, h, net_in]
theorem p_need_netX {m : Mem} {v : D} {t : String} (hm : Ok m) (h : tyD m v = some t) (hl : v.low m.length = true) : m_need_net m [v] = .ex "InvalidNet" ["given"] [v] m := by
  refine fn_ex rfl (m' := m) (c := "InvalidNet") (fs := ["given"]) (xs := [v]) (e := startE 1 [v]) ?_ (leaveX_same hm (low_cons hl rfl))
  unfold b_need_net
  exact e_ifS1 (e_tnot (e_tr (e_f1 (e_var rfl) (isnt_net h)) rfl)) (e_raise (e_var rfl))
section
variable {m : Mem} {v x y : D} {t : String}
theorem p_is_plainX (hm : Ok m) (h : tyD m v = some t) (hl : v.low m.length = true) : m_is_plain m [v] = .ex "InvalidNet" ["given"] [v] m := by
  refine fn_ex rfl (m' := m) (e := startE 3 [v]) ?_ (leaveX_same hm (low_cons hl rfl))
  unfold b_is_plain
  exact e_seqX (e_exprX (e_app (e_cons (e_var rfl) e_nil) (p_need_netX hm h hl)))
theorem p_topX (hm : Ok m) (h : tyD m v = some t) (hl : v.low m.length = true) : m_top m [v] = .ex "InvalidNet" ["given"] [v] m := by
  refine fn_ex rfl (m' := m) (e := startE 1 [v]) ?_ (leaveX_same hm (low_cons hl rfl))
  unfold b_top
  exact e_seqX (e_exprX (e_app (e_cons (e_var rfl) e_nil) (p_need_netX hm h hl)))
theorem p_bottomX (hm : Ok m) (h : tyD m v = some t) (hl : v.low m.length = true) : m_bottom m [v] = .ex "InvalidNet" ["given"] [v] m := by
  refine fn_ex rfl (m' := m) (e := startE 1 [v]) ?_ (leaveX_same hm (low_cons hl rfl))
  unfold b_bottom
  exact e_seqX (e_exprX (e_app (e_cons (e_var rfl) e_nil) (p_need_netX hm h hl)))
theorem p_extremeX (hm : Ok m) (h : tyD m v = some t) (hl : v.low m.length = true) : m_extreme m [v, x, y] = .ex "InvalidNet" ["given"] [v] m := by
  refine fn_ex rfl (m' := m) (e := startE 3 [v, x, y]) ?_ (leaveX_same hm (low_cons hl rfl))
  unfold b_extreme
  exact e_seqX (e_exprX (e_app (e_cons (e_var rfl) e_nil) (p_need_netX hm h hl)))
end
section
variable {m : Mem} {n : Nt} {v y : D}
theorem p_extremeW (hm : Ok m) (hl : v.low m.length = true) (h : m_need_words m [eObj n, v, .int 1] = .ex "InvalidWords" ["given"] [v] m) : m_extreme m [eObj n, v, y] = .ex "InvalidWords" ["given"] [v] m := by
  refine fn_ex rfl (m' := m) (e := startE 3 [eObj n, v, y]) ?_ (leaveX_same hm (low_cons hl rfl))
  unfold b_extreme
  refine e_seq (e_expr (e_app (e_cons (e_var rfl) e_nil) (p_need_net hm))) ?_
  exact e_seqX (e_exprX (e_app (e_cons (e_var rfl) (e_cons (e_var rfl) (e_cons e_c e_nil))) h))
theorem p_extremeS (hm : Ok m) (hl : y.low m.length = true) (h : m_need_words m [eObj n, v, .int 1] = .ok .non m) (h2 : m_need_sign m [y] = .ex "InvalidSign" ["given"] [y] m) : m_extreme m [eObj n, v, y] = .ex "InvalidSign" ["given"] [y] m := by
  refine fn_ex rfl (m' := m) (e := startE 3 [eObj n, v, y]) ?_ (leaveX_same hm (low_cons hl rfl))
  unfold b_extreme
  refine e_seq (e_expr (e_app (e_cons (e_var rfl) e_nil) (p_need_net hm))) ?_
  refine e_seq (e_expr (e_app (e_cons (e_var rfl) (e_cons (e_var rfl) (e_cons e_c e_nil))) h)) ?_
  exact e_seqX (e_exprX (e_app (e_cons (e_var rfl) e_nil) h2))
end
theorem e_xf {env : DL.Env} {m : Mem} {k : Nat} {v : D} (h : env[4]? = some (some (.cel k))) : fXf 4 k ["given"] [v] "given" env m = .ok v m := by
  unfold fXf
  rw [h]
  dsimp only
  rw [if_pos rfl]
  simp [List.lookup]
theorem clause {env : DL.Env} {m : Mem} {v : D} {due : Str} (he : 4 < env.length) : (fRet (fLst (aCons (fC (.str due)) (aCons (fXf 4 m.length ["given"] [v] "given") aNil)))) (preE (some 4) env m.length) (m ++ [none]) = .rt (.lst [.str due, v]) (m ++ [none]) := by
  refine e_ret (e_lst (e_cons e_c (e_cons (e_xf ?_) e_nil)) (lz (by simp)))
  show (env.set 4 _)[4]? = _
  rw [List.getElem?_set_self he]
theorem tryNet {env e : DL.Env} {m m1 : Mem} {v : D} {f : FS} (h : f env m = .ex "InvalidNet" ["given"] [v] e m1) (he : 4 < e.length) : fTry XS hit askCls f env m = .rt (.lst [.str "net", v]) (m1 ++ [none]) := by
  unfold fTry
  rw [h]
  dsimp only
  rw [if_pos (by decide)]
  unfold askCls tryGo
  rw [if_pos (by decide)]
  dsimp only
  rw [clause he]
theorem tryWords {env e : DL.Env} {m m1 : Mem} {v : D} {f : FS} (h : f env m = .ex "InvalidWords" ["given"] [v] e m1) (he : 4 < e.length) : fTry XS hit askCls f env m = .rt (.lst [.str "words", v]) (m1 ++ [none]) := by
  unfold fTry
  rw [h]
  dsimp only
  rw [if_pos (by decide)]
  unfold askCls tryGo
  rw [if_neg (by decide)]
  unfold tryGo
  rw [if_pos (by decide)]
  dsimp only
  rw [clause he]
theorem trySign {env e : DL.Env} {m m1 : Mem} {v : D} {f : FS} (h : f env m = .ex "InvalidSign" ["given"] [v] e m1) (he : 4 < e.length) : fTry XS hit askCls f env m = .rt (.lst [.str "sign", v]) (m1 ++ [none]) := by
  unfold fTry
  rw [h]
  dsimp only
  rw [if_pos (by decide)]
  unfold askCls tryGo
  rw [if_neg (by decide)]
  unfold tryGo
  rw [if_neg (by decide)]
  unfold tryGo
  rw [if_pos (by decide)]
  dsimp only
  rw [clause he]
theorem low_due {k : Nat} {due : Str} {v : D} (h : v.low k = true) : (D.lst [.str due, v]).low k = true := low_cons rfl (low_cons h rfl)
section
variable {m : Mem} {n : Nt} {v x y : D} {t : String} {b : Bool} {w : Nat}
theorem p_askedN (hw : w < 4) (hm : Ok m) (h : tyD m v = some t) (hl : v.low m.length = true) : m__law_asked m [eI w, .lst [v, x, y], .bl b] = .ok (.lst [.str "net", v]) m := by
  refine fn_rt rfl (m' := m ++ [none]) (d := .lst [.str "net", v]) ?_ (leave_app hm (low_due hl))
  rw [b_asked_eq]
  have x0 : opIx m (.lst [v, x, y]) (.int 0) = .ok v m := ix_lst (at0 _ _)
  have x1 : opIx m (.lst [v, x, y]) (.int 1) = .ok x m := ix_lst (at1 _ _ _)
  have x2 : opIx m (.lst [v, x, y]) (.int 2) = .ok y m := ix_lst (at2 _ _ _ _)
  refine e_seqR (tryNet (e := startE 5 [eI w, .lst [v, x, y], .bl b]) ?_ (by show 4 < 5; decide))
  unfold askBody
  match w, hw with
  | 0, _ =>
    refine e_ifS1 (e_fB (e_bin (e_var rfl) e_c eq_int)) (e_setX ?_)
    cases b
    · exact e_if0 (e_trb (e_var rfl)) (e_app (e_cons (e_bin (e_var rfl) e_c x0) e_nil) (p_is_plainX hm h hl))
    · exact e_if1 (e_trb (e_var rfl)) (e_appK (e_cons (e_bin (e_var rfl) e_c x0) e_nil) (p_is_plainX hm h hl))
  | 1, _ =>
    refine e_ifS0 (e_fB (e_bin (e_var rfl) e_c (ne_lit (by decide)))) (e_ifS1 (e_fB (e_bin (e_var rfl) e_c eq_int)) (e_setX ?_))
    cases b
    · exact e_if0 (e_trb (e_var rfl)) (e_app (e_cons (e_bin (e_var rfl) e_c x0) e_nil) (p_topX hm h hl))
    · exact e_if1 (e_trb (e_var rfl)) (e_appK (e_cons (e_bin (e_var rfl) e_c x0) e_nil) (p_topX hm h hl))
  | 2, _ =>
    refine e_ifS0 (e_fB (e_bin (e_var rfl) e_c (ne_lit (by decide)))) (e_ifS0 (e_fB (e_bin (e_var rfl) e_c (ne_lit (by decide)))) (e_ifS1 (e_fB (e_bin (e_var rfl) e_c eq_int)) (e_setX ?_)))
    cases b
    · exact e_if0 (e_trb (e_var rfl)) (e_app (e_cons (e_bin (e_var rfl) e_c x0) e_nil) (p_bottomX hm h hl))
    · exact e_if1 (e_trb (e_var rfl)) (e_appK (e_cons (e_bin (e_var rfl) e_c x0) e_nil) (p_bottomX hm h hl))
  | 3, _ =>
    refine e_ifS0 (e_fB (e_bin (e_var rfl) e_c (ne_lit (by decide)))) (e_ifS0 (e_fB (e_bin (e_var rfl) e_c (ne_lit (by decide)))) (e_ifS0 (e_fB (e_bin (e_var rfl) e_c (ne_lit (by decide)))) ?_))
    cases b
    · exact e_ifS0 (e_trb (e_var rfl)) (e_setX (e_app (e_cons (e_bin (e_var rfl) e_c x0) (e_cons (e_bin (e_var rfl) e_c x1) (e_cons (e_bin (e_var rfl) e_c x2) e_nil))) (p_extremeX hm h hl)))
    · exact e_ifS1 (e_trb (e_var rfl)) (e_setX (e_appK (e_cons (e_bin (e_var rfl) e_c x2) (e_cons (e_bin (e_var rfl) e_c x1) (e_cons (e_bin (e_var rfl) e_c x0) e_nil))) (p_extremeX hm h hl)))
/-- asked 3 where extreme raises -/
theorem ask3X {c : Str} {z : D} (he : m_extreme m [v, x, y] = .ex c ["given"] [z] m) : askBody (startE 5 [.int 3, .lst [v, x, y], .bl b]) m = .ex c ["given"] [z] (startE 5 [.int 3, .lst [v, x, y], .bl b]) m := by
  have x0 : opIx m (.lst [v, x, y]) (.int 0) = .ok v m := ix_lst (at0 _ _)
  have x1 : opIx m (.lst [v, x, y]) (.int 1) = .ok x m := ix_lst (at1 _ _ _)
  have x2 : opIx m (.lst [v, x, y]) (.int 2) = .ok y m := ix_lst (at2 _ _ _ _)
  unfold askBody
  refine e_ifS0 (e_fB (e_bin (e_var rfl) e_c (ne_lit (by decide)))) (e_ifS0 (e_fB (e_bin (e_var rfl) e_c (ne_lit (by decide)))) (e_ifS0 (e_fB (e_bin (e_var rfl) e_c (ne_lit (by decide)))) ?_))
  cases b
  · exact e_ifS0 (e_trb (e_var rfl)) (e_setX (e_app (e_cons (e_bin (e_var rfl) e_c x0) (e_cons (e_bin (e_var rfl) e_c x1) (e_cons (e_bin (e_var rfl) e_c x2) e_nil))) he))
  · exact e_ifS1 (e_trb (e_var rfl)) (e_setX (e_appK (e_cons (e_bin (e_var rfl) e_c x2) (e_cons (e_bin (e_var rfl) e_c x1) (e_cons (e_bin (e_var rfl) e_c x0) e_nil))) he))
theorem p_askedW (hm : Ok m) (hl : v.low m.length = true) (h : m_need_words m [eObj n, v, .int 1] = .ex "InvalidWords" ["given"] [v] m) : m__law_asked m [.int 3, .lst [eObj n, v, y], .bl b] = .ok (.lst [.str "words", v]) m := by
  refine fn_rt rfl (m' := m ++ [none]) (d := .lst [.str "words", v]) ?_ (leave_app hm (low_due hl))
  rw [b_asked_eq]
  exact e_seqR (tryWords (e := startE 5 [.int 3, .lst [eObj n, v, y], .bl b]) (ask3X (p_extremeW hm hl h)) (by show 4 < 5; decide))
theorem p_askedS (hm : Ok m) (hl : y.low m.length = true) (h : m_need_words m [eObj n, v, .int 1] = .ok .non m) (h2 : m_need_sign m [y] = .ex "InvalidSign" ["given"] [y] m) : m__law_asked m [.int 3, .lst [eObj n, v, y], .bl b] = .ok (.lst [.str "sign", y]) m := by
  refine fn_rt rfl (m' := m ++ [none]) (d := .lst [.str "sign", y]) ?_ (leave_app hm (low_due hl))
  rw [b_asked_eq]
  exact e_seqR (trySign (e := startE 5 [.int 3, .lst [eObj n, v, y], .bl b]) (ask3X (p_extremeS hm hl h h2)) (by show 4 < 5; decide))
end
end LW
namespace LW
open PySem PySem.Spec PyProof.Rows L2 DL
theorem lc_src {s : Src} {ds : List D} {m : Mem} {tg : TgD} {ft : FT} {fe : FE} {env0 : DL.Env} (hs : Src.items m s = some ds) (h : ∀ d ∈ ds, ∃ e1, tg d env0 m = some e1 ∧ ft e1 m = .ok true m ∧ ∃ y, fe e1 m = .ok y m) : ∀ (n i : Nat) (acc : List D), lcGo s tg ft fe env0 n i acc m = lcGo (.its ds) tg ft fe env0 n i acc m
  | 0, _, _ => rfl
  | n + 1, i, acc => by
    unfold lcGo
    rw [show Src.items m (Src.its ds) = some ds from rfl, hs]
    dsimp only
    cases hd : ds[i]? with
    | none => rfl
    | some d =>
      obtain ⟨e1, a, b, y, c⟩ := h d (List.mem_of_getElem? hd)
      dsimp only
      rw [a]
      dsimp only
      rw [b]
      dsimp only
      rw [if_pos rfl, if_pos rfl, c]
      dsimp only
      rw [lc_src hs h n (i + 1) (acc ++ [y])]
theorem e_lcS {env : DL.Env} {m m1 : Mem} {ds es : List D} {s : Src} {si : FI} {vs : List Nat} {tg : TgD} {t : FT} {fe : FE} (hi : si env m = .ok s m1) (hs : Src.items m1 s = some ds) (h : ∀ d ∈ ds, ∃ e1, tg d (wipeE env vs) m1 = some e1 ∧ t e1 m1 = .ok true m1 ∧ ∃ y, fe e1 m1 = .ok y m1)
    (hl : lcGo (.its ds) tg t fe (wipeE env vs) (ds.length + 1) 0 [] m1 = .ok es m1) : fLc si vs tg t fe env m = .ok (.lst es) m1 := by
  have e : Src.fuel m1 s = ds.length + 1 := by
    unfold Src.fuel
    rw [hs]
  unfold fLc lcAll
  rw [hi, R.bind, e, lc_src hs h, hl, R.bind]
theorem lowL_app {n : Nat} {xs ys : List D} (h : lowL n xs = true) (h2 : lowL n ys = true) : lowL n (xs ++ ys) = true := lowL_all fun x hx => by
  rcases List.mem_append.mp hx with hx | hx
  · exact lowL_mem h x hx
  · exact lowL_mem h2 x hx
structure Vls (m : Mem) (v : D) (ds : List D) : Prop where
  ty : tyD m v = some "list" ∨ tyD m v = some "tuple"
  it : ∃ s, itrOf m v = .ok s m ∧ Src.items m s = some ds
  ln : opLen m v = .ok (eI ds.length) m
theorem vls_tup {m : Mem} {ds : List D} : Vls m (.tup ds) ds := ⟨.inr rfl, ⟨_, rfl, rfl⟩, rfl⟩
theorem ck_ty {m : Mem} {k : Nat} {ds : List D} (h : m[k]? = some (some (.lst ds))) : tyD m (.cel k) = some "list" := by
  unfold tyD
  dsimp only
  rw [h]
theorem vls_cel {m : Mem} {k : Nat} {ds : List D} (h : m[k]? = some (some (.lst ds))) : Vls m (.cel k) ds := by
  have e : Src.items m (.cel k) = some ds := by
    unfold Src.items
    rw [h]
  refine ⟨.inl (ck_ty h), ⟨.cel k, ?_, e⟩, ck_len h⟩
  show (if (Src.items m (.cel k)).isSome = true then _ else _) = _
  rw [e]
  rfl
theorem Vls.isl {m : Mem} {d : D} {ds : List D} (h : Vls m d ds) (hm : Ok m) : m_is_list m [d] = .ok (.bl true) m := by
  rcases h.ty with e | e
  · rw [p_is_list hm e]
    rfl
  · rw [p_is_list hm e]
    rfl
def okItem : D → Prop
  | .str x => x.length ≤ 1000
  | .non => True
  | .int _ => True
  | .lst _ => True
  | _ => False
def good (k : Nat) : D → Bool
  | .str x => (decide (x.length ≤ 24) && x.cps.toList.all isBit) && decide (x.length = k)
  | _ => false
theorem p_isnt_word {m : Mem} {d : D} {t : String} (hm : Ok m) (ht : tyD m d = some t) (h : (["str"].any fun T => subTy t T) = false) : m_is_word m [d] = .ok (.bl false) m := by
  refine fn_rt rfl (d := .bl false) (m' := m) ?_ (leave_same hm rfl)
  unfold b_is_word
  exact e_ret (e_and0 (e_f1 (e_var rfl) (by rw [isi_of ht, h])))
theorem p_good {m : Mem} {d : D} {k : Nat} (hm : Ok m) (h : okItem d) : m_is_word_of m [d, eI k] = .ok (.bl (good k d)) m := by
  have neg : ∀ t, tyD m d = some t → (["str"].any fun T => subTy t T) = false → m_is_word_of m [d, eI k] = .ok (.bl false) m := fun t ht h => by
    refine fn_rt rfl (d := .bl false) (m' := m) ?_ (leave_same hm rfl)
    unfold b_is_word_of
    exact e_ret (e_and0 (e_app (e_cons (e_var rfl) e_nil) (p_isnt_word hm ht h)))
  cases d with
  | non => exact neg "NoneType" rfl rfl
  | int i => exact neg "int" rfl rfl
  | lst xs => exact neg "list" rfl rfl
  | str x =>
    refine fn_rt rfl (d := .bl (good k (.str x))) (m' := m) ?_ (leave_same hm rfl)
    unfold b_is_word_of
    have e : (((x.length : Nat) : Int) = ((k : Nat) : Int)) ↔ x.length = k := by omega
    exact e_ret (e_and (e_app (e_cons (e_var rfl) e_nil) (p_is_word hm h)) (e_bin (e_call1 (e_var rfl) (len_str h)) (e_var rfl) (by simp [opEq, eqD, eI, e])))
  | _ => exact h.elim
theorem p_need_wordsN {m : Mem} {v : D} {n : Nt} {t : String} (hm : Ok m) (hl : v.low m.length = true) (ht : tyD m v = some t) (h : (["list", "tuple"].any fun T => subTy t T) = false) : m_need_words m [eObj n, v, .int 1] = .ex "InvalidWords" ["given"] [v] m := by
  refine fn_ex rfl (m' := m) (e := startE 4 [eObj n, v, .int 1]) ?_ (leaveX_same hm (low_cons hl rfl))
  unfold b_need_words
  have hil : m_is_list m [v] = .ok (.bl false) m := by rw [p_is_list hm ht, h]
  exact e_seqX (e_ifS1 (e_tor1 (e_tnot (e_trb (e_app (e_cons (e_var rfl) e_nil) hil)))) (e_raise (e_var rfl)))
theorem p_need_wordsX {m : Mem} {v : D} {n : Nt} {ds : List D} (hm : Ok m) (hl : v.low m.length = true) (hv : Vls m v ds) (hi : ∀ d ∈ ds, okItem d) (hz : ds.length ≤ 1000) (bad : ¬ (1 ≤ ds.length ∧ ds.length ≤ 200) ∨ ds.all (good n.ins) = false) : m_need_words m [eObj n, v, .int 1] = .ex "InvalidWords" ["given"] [v] m := by
  refine fn_ex rfl (m' := m) (e := startE 4 [eObj n, v, .int 1]) ?_ (leaveX_same hm (low_cons hl rfl))
  unfold b_need_words
  by_cases hb : 1 ≤ ds.length ∧ ds.length ≤ 200
  · have hbad : ds.all (good n.ins) = false := by
      rcases bad with h | h
      · exact absurd hb h
      · exact h
    refine e_seq (e_skip (e_tor0 (e_tnot (e_trb (e_app (e_cons (e_var rfl) e_nil) (hv.isl hm)))) (e_tnot (e_fB (e_chain (r := true) (e_var rfl) (e_call1 (e_var rfl) hv.ln) (decide_eq_true (by omega)) e_c (decide_eq_true (by omega))))))) ?_
    obtain ⟨s, hs1, hs2⟩ := hv.it
    have hg : ∀ d ∈ ds, ∃ e1, tName 3 d (wipeE (startE 4 [eObj n, v, .int 1]) [3]) m = some e1 ∧ fYes e1 m = .ok true m ∧ fApp m_is_word_of (aCons (fVar 3) (aCons (fFld CS FSN "ins" (fVar 0)) aNil)) e1 m = .ok ((D.bl ∘ good n.ins) d) m := fun d hd => ⟨_, rfl, rfl, e_app (e_cons (e_var rfl) (e_cons (e_fld (e_var rfl) fld_ins) e_nil)) (p_good hm (hi d hd))⟩
    have hlc := lc_map' (D.bl ∘ good n.ins) (lz hz) hg
    refine e_ifS1 (e_tnot (e_trb (e_call1 (e_lcS (es := ds.map (D.bl ∘ good n.ins)) (e_itr (e_var rfl) hs1) hs2 (fun d hd => ?_) hlc) ((opAll_map _ _).trans (by rw [hbad]))))) (e_raise (e_var rfl))
    obtain ⟨e1, a, b, c⟩ := hg d hd
    exact ⟨e1, a, b, _, c⟩
  · refine e_seqX (e_ifS1 (e_tor0 (e_tnot (e_trb (e_app (e_cons (e_var rfl) e_nil) (hv.isl hm)))) ?_) (e_raise (e_var rfl)))
    by_cases h1 : 1 ≤ ds.length
    · exact e_tnot (e_fB (e_chain (r := false) (e_var rfl) (e_call1 (e_var rfl) hv.ln) (decide_eq_true (by omega)) e_c (decide_eq_false (by omega))))
    · exact e_tnot (e_fB (e_chain0 (e_var rfl) (e_call1 (e_var rfl) hv.ln) (decide_eq_false (by omega))))
/-! signs -/
theorem p_isnt_int {m : Mem} {v : D} {t : String} (hm : Ok m) (ht : tyD m v = some t) (h : (["int"].any fun T => subTy t T) = false) : m_is_integer m [v] = .ok (.bl false) m := by
  refine fn_rt rfl (d := .bl false) (m' := m) ?_ (leave_same hm rfl)
  unfold b_is_integer
  exact e_ret (e_and0 (e_f1 (e_var rfl) (by rw [isi_of ht, h])))
theorem p_isnt_int_bl {m : Mem} {b : Bool} (hm : Ok m) : m_is_integer m [.bl b] = .ok (.bl false) m := by
  refine fn_rt rfl (d := .bl false) (m' := m) ?_ (leave_same hm rfl)
  unfold b_is_integer
  have i1 : isiD CS ["int"] m (.bl b) = .ok (.bl true) m := by rw [isi_of (t := "bool") rfl]; rfl
  have i2 : isiD CS ["bool"] m (.bl b) = .ok (.bl true) m := by rw [isi_of (t := "bool") rfl]; rfl
  exact e_ret (e_and1 (e_f1 (e_var rfl) i1) (e_notT (e_trb (e_f1 (e_var rfl) i2))))
theorem p_need_signX {m : Mem} {v : D} (hm : Ok m) (hl : v.low m.length = true) (h : m_is_between m [v, .int 0, .int 1] = .ok (.bl false) m) : m_need_sign m [v] = .ex "InvalidSign" ["given"] [v] m := by
  refine fn_ex rfl (m' := m) (e := startE 1 [v]) ?_ (leaveX_same hm (low_cons hl rfl))
  unfold b_need_sign
  exact e_ifS1 (e_tnot (e_trb (e_app (e_cons (e_var rfl) (e_cons e_c (e_cons e_c e_nil))) h))) (e_raise (e_var rfl))
theorem p_isnt_between {m : Mem} {v x y : D} (hm : Ok m) (h : m_is_integer m [v] = .ok (.bl false) m) : m_is_between m [v, x, y] = .ok (.bl false) m := by
  refine fn_rt rfl (d := .bl false) (m' := m) ?_ (leave_same hm rfl)
  unfold b_is_between
  exact e_ret (e_and0 (e_app (e_cons (e_var rfl) e_nil) h))
/-! _law_refused -/
theorem same_cel {m : Mem} {c k : Nat} {xs : List D} (hm : Ok m) (h : m[c]? = some (some (.lst xs))) (hx : ∀ x ∈ xs, okS k x) (hl : xs.length ≤ 5000) : m__law_same (k + 1) m [.cel c, .cel c] = .ok (.bl true) m :=
  same_seq hm (xs := xs) (ck_ty h) (.inl rfl) (ck_len h) (fun i x hi => by
    show (match seqOf m (.cel c) with | some xs => _ | none => _) = _
    rw [ck_seq h]
    dsimp only
    rw [atI_nat, hi]) rfl (fun x hx' => p_same hm k x (hx x hx')) hl
theorem ref_ix0 {m : Mem} {due : Str} {v : D} : opIx m (.lst [.str due, v]) (.int 0) = .ok (.str due) m := ix_lst (at0 _ _)
theorem ref_ix1 {m : Mem} {due : Str} {v : D} : opIx m (.lst [.str due, v]) (.int 1) = .ok v m := ix_lst (at1 _ _ _)
theorem p_refA {m : Mem} {v w args : D} {due : Str} {b : Bool} {t : String} (hm : Ok m) (ha : m__law_asked m [w, args, .bl b] = .ok (.lst [.str due, v]) m) (ht : tyD m v = some t) (hl : (["list"].any fun T => subTy t T) = false) (hd : (["dict"].any fun T => subTy t T) = false) (hs : m__law_same REC m [v, v] = .ok (.bl true) m) :
    m__law_refused m [v, w, args, .str due, .bl b] = .ok (.bl true) m := by
  refine fn_rt rfl (d := .bl true) (m' := m) ?_ (leave_same hm rfl)
  unfold b__law_refused
  refine e_seq (e_set (e_app (e_cons (e_var rfl) (e_cons (e_var rfl) (e_cons (e_var rfl) e_nil))) ha)) ?_
  refine e_seq (e_skip (e_trb (e_f1 (e_var rfl) (by rw [isi_of ht, hl])))) ?_
  refine e_seq (e_skip (e_trb (e_f1 (e_var rfl) (by rw [isi_of ht, hd])))) ?_
  exact e_ret (e_and1 (e_bin (e_bin (e_var rfl) e_c ref_ix0) (e_var rfl) eq_str_self) (e_app (e_cons (e_bin (e_var rfl) e_c ref_ix1) (e_cons (e_var rfl) e_nil)) hs))
theorem ok_set {m : Mem} {c : Nat} {xs : List D} (hm : Ok m) (hx : lowL m.length xs = true) : Ok (m.set c (some (.lst xs))) := by
  rw [Ok, List.length_set]
  exact lowM_set hm hx
theorem p_refB {m : Mem} {c : Nat} {w args : D} {due : Str} {b : Bool} {xs : List D} (hm : Ok m) (ha : m__law_asked m [w, args, .bl b] = .ok (.lst [.str due, .cel c]) m) (h : m[c]? = some (some (.lst xs))) (hz : xs.length ≤ 1000) (hx : ∀ x ∈ xs, okS 11 x) :
    m__law_refused m [.cel c, w, args, .str due, .bl b] = .ok (.bl true) (m.set c (some (.lst (xs ++ [.int 0])))) := by
  have hc := (List.getElem?_eq_some_iff.mp h).1
  have h' : (m.set c (some (.lst (xs ++ [.int 0]))))[c]? = some (some (.lst (xs ++ [.int 0]))) := List.getElem?_set_self hc
  have hlo : lowL m.length xs = true := lowM_get hm h
  have hm' : Ok (m.set c (some (.lst (xs ++ [.int 0])))) := ok_set hm (lowL_app hlo rfl)
  refine fn_rt rfl (d := .bl true) (m' := m.set c (some (.lst (xs ++ [.int 0])))) ?_ (leave_len (by rw [List.length_set]) hm' rfl)
  unfold b__law_refused
  refine e_seq (e_set (e_app (e_cons (e_var rfl) (e_cons (e_var rfl) (e_cons (e_var rfl) e_nil))) ha)) ?_
  have i1 : isiD CS ["list"] m (.cel c) = .ok (.bl true) m := by rw [isi_of (ck_ty h)]; rfl
  have i2 : isiD CS ["dict"] (m.set c (some (.lst (xs ++ [.int 0])))) (.cel c) = .ok (.bl false) (m.set c (some (.lst (xs ++ [.int 0])))) := by rw [isi_of (ck_ty h')]; rfl
  refine e_seq (e_ifS1 (e_trb (e_f1 (e_var rfl) i1)) (e_expr (e_mL (e_var rfl) (ck_cel h) (e_cons e_c e_nil) (ck_app h hz)))) ?_
  refine e_seq (e_skip (e_trb (e_f1 (e_var rfl) i2))) ?_
  have hs : m__law_same REC (m.set c (some (.lst (xs ++ [.int 0])))) [.cel c, .cel c] = .ok (.bl true) (m.set c (some (.lst (xs ++ [.int 0])))) := same_cel (k := 11) hm' h' (fun x hx' => by
    rcases List.mem_append.mp hx' with hx' | hx'
    · exact hx x hx'
    · rw [List.mem_singleton.mp hx']
      trivial) (by simp; omega)
  exact e_ret (e_and1 (e_bin (e_bin (e_var rfl) e_c ref_ix0) (e_var rfl) eq_str_self) (e_app (e_cons (e_bin (e_var rfl) e_c ref_ix1) (e_cons (e_var rfl) e_nil)) hs))
theorem p_refC {m : Mem} {w args : D} {due : Str} {b : Bool} (hm : Ok m) (ha : m__law_asked m [w, args, .bl b] = .ok (.lst [.str due, .dk [.inr "a"] [.int 1]]) m) :
    m__law_refused m [.dk [.inr "a"] [.int 1], w, args, .str due, .bl b] = .ok (.bl true) m := by
  refine fn_rt rfl (d := .bl true) (m' := m) ?_ (leave_same hm rfl)
  unfold b__law_refused
  have i1 : isiD CS ["list"] m (.dk [.inr "a"] [.int 1]) = .ok (.bl false) m := by rw [isi_of (t := "dict") rfl]; rfl
  have i2 : isiD CS ["dict"] m (.dk [.inr "a"] [.int 1]) = .ok (.bl true) m := by rw [isi_of (t := "dict") rfl]; rfl
  have l1 : opLen m (.dk [.inr "a"] [.int 1]) = .ok (.int 1) m := by with_unfolding_all rfl
  refine e_seq (e_set (e_app (e_cons (e_var rfl) (e_cons (e_var rfl) (e_cons (e_var rfl) e_nil))) ha)) ?_
  refine e_seq (e_skip (e_trb (e_f1 (e_var rfl) i1))) ?_
  refine e_seqR (e_ifS1 (e_trb (e_f1 (e_var rfl) i2)) ?_)
  exact e_ret (e_and1 (e_bin (e_bin (e_var rfl) e_c ref_ix0) (e_var rfl) eq_str_self) (e_and1 (e_f1 (e_bin (e_var rfl) e_c ref_ix1) i2) (e_bin (e_call1 (e_bin (e_var rfl) e_c ref_ix1) l1) (e_call1 (e_var rfl) l1) eq_int)))
end LW
namespace LW
open PySem PySem.Spec PyProof.Rows L2 DL
def xRefN : FS := fSeq (fSet 7 (fBin opIx (fLst (aCons (fC .non) (aCons (fC (.int 5)) (aCons (fC (.str "net")) (aCons (fLstC (aCons (fC (.int 1)) aNil)) (aCons (fTup (aCons (fC (.int 0)) (aCons (fC (.str "1")) aNil))) (aCons (fC (.bl true)) aNil))))))) (fVar 6))) (fIfS (tfNot (fTr (fApp m__law_refused (aCons (fVar 7) (aCons (fVar 5) (aCons (fLst (aCons (fVar 7) (aCons (fBin opIx (fLst (aCons (fLst (aCons (fC .non) aNil)) (aCons (fC .non) aNil))) (fBin opMod (fCall (op1 opInt) (aCons (fVar 6) aNil)) (fC (.int 2)))) (aCons (fC (.int 7)) aNil)))) (aCons (fC (.str "net")) (aCons (fBin opEq (fVar 3) (fBin opEq (fBin opMod (fCall (op1 opInt) (aCons (fVar 6) aNil)) (fC (.int 2))) (fC (.int 0)))) aNil)))))))) (fRet (fC (.bl false))) fNext)
def xRefW : FS := fSeq (fSet 7 (fBin opIx (fLst (aCons (fC .non) (aCons (fLstC aNil) (aCons (fC (.str "")) (aCons (fLstC (aCons (fBin opAdd (fVar 4) (fC (.str "0"))) aNil)) (aCons (fLstC (aCons (fVar 4) (aCons (fC .non) aNil))) (aCons (fTup (aCons (fVar 4) (aCons (fC (.int 5)) aNil))) (aCons (fDisp ((fC (.str "a"), fC (.int 1)) :: [])) (aCons (fLstC (aCons (fLst (aCons (fVar 4) aNil)) aNil)) (aCons (fBin opMulC (fLst (aCons (fVar 4) aNil)) (fC (.int 201))) (aCons (fLstC (aCons (fBin opAdd (fVar 4) (fC (.str "2"))) aNil)) aNil))))))))))) (fVar 6))) (fIfS (tfNot (fTr (fApp m__law_refused (aCons (fVar 7) (aCons (fC (.int 3)) (aCons (fLst (aCons (fVar 2) (aCons (fVar 7) (aCons (fBin opIx (fLst (aCons (fC (.bl true)) (aCons (fC (.int 0)) aNil))) (fBin opMod (fCall (op1 opInt) (aCons (fVar 6) aNil)) (fC (.int 2)))) aNil)))) (aCons (fC (.str "words")) (aCons (fBin opEq (fVar 3) (fBin opEq (fBin opMod (fCall (op1 opInt) (aCons (fVar 6) aNil)) (fC (.int 2))) (fC (.int 0)))) aNil)))))))) (fRet (fC (.bl false))) fNext)
def xRefS : FS := fSeq (fSet 7 (fBin opIx (fLst (aCons (fC (.bl true)) (aCons (fC (.bl false)) (aCons (fC (.int 2)) (aCons (fNeg (fC (.int 1))) (aCons (fC .non) (aCons (fC (.str "0")) (aCons (fLstC (aCons (fC (.int 0)) aNil)) aNil)))))))) (fVar 6))) (fIfS (tfNot (fTr (fApp m__law_refused (aCons (fVar 7) (aCons (fC (.int 3)) (aCons (fLst (aCons (fVar 2) (aCons (fLst (aCons (fVar 4) aNil)) (aCons (fVar 7) aNil)))) (aCons (fC (.str "sign")) (aCons (fBin opEq (fVar 3) (fBin opEq (fBin opMod (fCall (op1 opInt) (aCons (fVar 6) aNil)) (fC (.int 2))) (fC (.int 0)))) aNil)))))))) (fRet (fC (.bl false))) fNext)
theorem b_ref_eq : b__law_refused_right = fSeq (fSet 4 (fApp m__law_word (aCons (fVar 0) (aCons (fBin opIx (fVar 1) (fC (.int 0))) aNil)))) (fSeq (fFor (fRng1 (aCons (fC (.int 4)) aNil)) (tName 5) (fFor (fRng1 (aCons (fC (.int 6)) aNil)) (tName 6) xRefN)) (fSeq (fFor (fRng1 (aCons (fC (.int 10)) aNil)) (tName 6) xRefW) (fSeq (fFor (fRng1 (aCons (fC (.int 7)) aNil)) (tName 6) xRefS) (fSeq (fSet 8 (fApp m__law_run (aCons (fApp m__law_end (aCons (fVar 1) (aCons (fC (.int 0)) aNil))) (aCons (fBin opMul (fLst (aCons (fVar 4) aNil)) (fC (.int 200))) (aCons (fBin opMul (fLst (aCons (fLst aNil) aNil)) (fC (.int 200))) aNil))))) (fRet (fApp (m__law_same REC) (aCons (fApp m__law_asked (aCons (fC (.int 3)) (aCons (fLst (aCons (fVar 2) (aCons (fBin opMul (fLst (aCons (fVar 4) aNil)) (fC (.int 200))) (aCons (fC (.int 0)) aNil)))) (aCons (fVar 3) aNil)))) (aCons (fLst (aCons (fC (.str "told")) (aCons (fTup (aCons (fBin opIx (fVar 8) (fC (.int 1))) (aCons (fBin opIx (fBin opIx (fVar 8) (fC (.int 0))) (fNeg (fC (.int 1)))) aNil))) aNil))) aNil)))))))) := rfl
/-- the memory grew -/
def Grew (m m' : Mem) : Prop := Ok m' ∧ ∃ ext, m' = m ++ ext
theorem Grew.refl {m : Mem} (h : Ok m) : Grew m m := ⟨h, [], by simp⟩
theorem Grew.trans {a b c : Mem} (h : Grew a b) (g : Grew b c) : Grew a c := by
  obtain ⟨_, e, rfl⟩ := h
  obtain ⟨o, f, rfl⟩ := g
  exact ⟨o, e ++ f, by rw [List.append_assoc]⟩
theorem ix_two {m : Mem} {a b : D} {r : Nat} (h : r < 2) : ∃ x, (x = a ∨ x = b) ∧ opIx m (.lst [a, b]) (eI r) = .ok x m := by
  match r, h with
  | 0, _ => exact ⟨a, .inl rfl, ix_lst (at0 _ _)⟩
  | 1, _ => exact ⟨b, .inr rfl, ix_lst (at1 _ _ _)⟩
theorem eq_ii {m : Mem} {i j : Int} : opEq m (.int i) (.int j) = .ok (.bl (decide (i = j))) m := rfl
theorem eq_bb {m : Mem} {i j : Bool} : opEq m (.bl i) (.bl j) = .ok (.bl (decide (i = j))) m := rfl
theorem ix_at {m : Mem} {xs : List D} {i : Nat} {d : D} (h : xs[i]? = some d) : opIx m (.lst xs) (eI i) = .ok d m := ix_lst (by rw [atI_nat, h])
/-- by_name == (int(k) % 2 == 0) -/
theorem e_by {env : DL.Env} {m : Mem} {b : Bool} {k : Nat} (hk : k ≤ 1000) (h3 : env[3]? = some (some (.bl b))) (h6 : env[6]? = some (some (eI k))) : ∃ c : Bool, fBin opEq (fVar 3) (fBin opEq (fBin opMod (fCall (op1 opInt) (aCons (fVar 6) aNil)) (fC (.int 2))) (fC (.int 0))) env m = .ok (.bl c) m :=
  ⟨_, e_bin (e_var h3) (e_bin (e_bin (e_call1 (e_var h6) int_eI) e_c (mod2 hk)) e_c eq_ii) eq_bb⟩
theorem e_odd {env : DL.Env} {m : Mem} {k : Nat} {fa fb : FE} {a b : D} (hk : k ≤ 1000) (h6 : env[6]? = some (some (eI k))) (ha : fa env m = .ok a m) (hb : fb env m = .ok b m) : ∃ x, fBin opIx (fLst (aCons fa (aCons fb aNil))) (fBin opMod (fCall (op1 opInt) (aCons (fVar 6) aNil)) (fC (.int 2))) env m = .ok x m := by
  obtain ⟨x, _, h⟩ := ix_two (m := m) (a := a) (b := b) (r := k % 2) (by omega)
  exact ⟨x, e_bin (e_lst (e_cons ha (e_cons hb e_nil)) (lz (by simp))) (e_bin (e_call1 (e_var h6) int_eI) e_c (mod2 hk)) h⟩
theorem cel_at {m : Mem} {ext : List (Option C)} (i : Nat) : (m ++ ext)[m.length + i]? = ext[i]? := by
  rw [List.getElem?_append_right (by omega), Nat.add_sub_cancel_left]
theorem cel_put {m : Mem} {ext : List (Option C)} {e : Option C} (i : Nat) : (m ++ ext).set (m.length + i) e = m ++ ext.set i e := by
  rw [List.set_append_right _ _ (by omega), Nat.add_sub_cancel_left]
theorem grew_set {m : Mem} {ext : List (Option C)} {i : Nat} {xs : List D} (h : Ok (m ++ ext)) (hx : lowL (m ++ ext).length xs = true) : Grew m ((m ++ ext).set (m.length + i) (some (.lst xs))) := by
  refine ⟨ok_set h hx, ext.set i (some (.lst xs)), cel_put i⟩
section
variable {m : Mem} {n : Nt} {j wh k : Nat} {b : Bool} {bs : List Bool} {z7 z8 : Option D}
theorem d_refN (hm : Ok m) (hw : wh < 4) (hk : k < 6) : ∃ (w7 : Option D) (m' : Mem), xRefN [some (.cel j), some (eNet n), some (eObj n), some (.bl b), some (eS bs), some (eI wh), some (eI k), z7, z8] m = .nx [some (.cel j), some (eNet n), some (eObj n), some (.bl b), some (eS bs), some (eI wh), some (eI k), w7, z8] m' ∧ Grew m m' := by
  have hm1 : Ok (m ++ [some (.lst [.int 1])]) := ok_app hm rfl
  have key : ∀ (v : D) (m2 : Mem), ([.non, .int 5, .str "net", .cel m.length, .tup [.int 0, .str "1"], .bl true] : List D)[k]? = some v → (∀ (x : D) (c : Bool), m__law_refused (m ++ [some (.lst [.int 1])]) [v, eI wh, .lst [v, x, .int 7], .str "net", .bl c] = .ok (.bl true) m2) → xRefN [some (.cel j), some (eNet n), some (eObj n), some (.bl b), some (eS bs), some (eI wh), some (eI k), z7, z8] m = .nx [some (.cel j), some (eNet n), some (eObj n), some (.bl b), some (eS bs), some (eI wh), some (eI k), some v, z8] m2 := by
    intro v m2 hv hr
    obtain ⟨c, hc⟩ := e_by (m := m ++ [some (.lst [.int 1])]) (b := b) (k := k) (env := [some (.cel j), some (eNet n), some (eObj n), some (.bl b), some (eS bs), some (eI wh), some (eI k), some v, z8]) (by omega) rfl rfl
    obtain ⟨x, hx⟩ := e_odd (m := m ++ [some (.lst [.int 1])]) (k := k) (env := [some (.cel j), some (eNet n), some (eObj n), some (.bl b), some (eS bs), some (eI wh), some (eI k), some v, z8]) (fa := fLst (aCons (fC .non) aNil)) (fb := fC .non) (by omega) rfl (e_lst (e_cons e_c e_nil) (lz (by simp))) e_c
    unfold xRefN
    refine e_seq (e_set (e_bin (e_lst (e_cons e_c (e_cons e_c (e_cons e_c (e_cons (e_lstC (e_cons e_c e_nil) (lz (by simp))) (e_cons (e_tup (e_cons e_c (e_cons e_c e_nil)) (lz (by simp))) (e_cons e_c e_nil)))))) (lz (by simp))) (e_var rfl) (ix_at hv))) ?_
    exact e_skip (e_tnot (e_trb (e_app (e_cons (e_var rfl) (e_cons (e_var rfl) (e_cons (e_lst (e_cons (e_var rfl) (e_cons hx (e_cons e_c e_nil))) (lz (by simp))) (e_cons e_c (e_cons hc e_nil))))) (hr x c))))
  have gr : Grew m (m ++ [some (.lst [.int 1])]) := ⟨hm1, _, rfl⟩
  rcases (by omega : k = 0 ∨ k = 1 ∨ k = 2 ∨ k = 3 ∨ k = 4 ∨ k = 5) with rfl | rfl | rfl | rfl | rfl | rfl
  · exact ⟨_, _, key _ _ rfl fun x c => p_refA hm1 (p_askedN hw hm1 (t := "NoneType") rfl rfl) (t := "NoneType") rfl rfl rfl (p_same hm1 12 _ trivial), gr⟩
  · exact ⟨_, _, key _ _ rfl fun x c => p_refA hm1 (p_askedN hw hm1 (t := "int") rfl rfl) (t := "int") rfl rfl rfl (p_same hm1 12 _ trivial), gr⟩
  · exact ⟨_, _, key _ _ rfl fun x c => p_refA hm1 (p_askedN hw hm1 (t := "str") rfl rfl) (t := "str") rfl rfl rfl (p_same hm1 12 _ (by show ("net" : Str).length ≤ 1000; decide)), gr⟩
  · have hc : (m ++ [some (C.lst [.int 1])])[m.length]? = some (some (.lst [.int 1])) := cell_get
    refine ⟨_, _, key _ _ rfl fun x c => p_refB hm1 (p_askedN hw hm1 (ck_ty hc) ?_) hc (by simp) (fun x hx => ?_), ?_⟩
    · show decide (m.length < (m ++ [some (C.lst [.int 1])]).length) = true
      simp
    · rw [List.mem_singleton.mp hx]
      trivial
    · exact grew_set (i := 0) hm1 rfl
  · exact ⟨_, _, key _ _ rfl fun x c => p_refA hm1 (p_askedN hw hm1 (t := "tuple") rfl rfl) (t := "tuple") rfl rfl rfl (p_same hm1 12 _ (okS_t2 trivial (by show ("1" : Str).length ≤ 1000; decide))), gr⟩
  · exact ⟨_, _, key _ _ rfl fun x c => p_refA hm1 (p_askedN hw hm1 (t := "bool") rfl rfl) (t := "bool") rfl rfl rfl (p_same hm1 12 _ trivial), gr⟩
theorem d_refS (hm : Ok m) (h : NOk n) (hb : bs.length = n.ins) (hk : k < 7) {z5 : Option D} : ∃ (w7 : Option D) (m' : Mem), xRefS [some (.cel j), some (eNet n), some (eObj n), some (.bl b), some (eS bs), z5, some (eI k), z7, z8] m = .nx [some (.cel j), some (eNet n), some (eObj n), some (.bl b), some (eS bs), z5, some (eI k), w7, z8] m' ∧ Grew m m' := by
  have hm1 : Ok (m ++ [some (.lst [.int 0])]) := ok_app hm rfl
  have key : ∀ (v : D) (m2 : Mem), ([.bl true, .bl false, .int 2, .int (-1), .non, .str "0", .cel m.length] : List D)[k]? = some v → (∀ (c : Bool), m__law_refused (m ++ [some (.lst [.int 0])]) [v, .int 3, .lst [eObj n, .lst [eS bs], v], .str "sign", .bl c] = .ok (.bl true) m2) → xRefS [some (.cel j), some (eNet n), some (eObj n), some (.bl b), some (eS bs), z5, some (eI k), z7, z8] m = .nx [some (.cel j), some (eNet n), some (eObj n), some (.bl b), some (eS bs), z5, some (eI k), some v, z8] m2 := by
    intro v m2 hv hr
    obtain ⟨c, hc⟩ := e_by (m := m ++ [some (.lst [.int 0])]) (b := b) (k := k) (env := [some (.cel j), some (eNet n), some (eObj n), some (.bl b), some (eS bs), z5, some (eI k), some v, z8]) (by omega) rfl rfl
    unfold xRefS
    refine e_seq (e_set (e_bin (e_lst (e_cons e_c (e_cons e_c (e_cons e_c (e_cons e_neg1 (e_cons e_c (e_cons e_c (e_cons (e_lstC (e_cons e_c e_nil) (lz (by simp))) e_nil))))))) (lz (by simp))) (e_var rfl) (ix_at hv))) ?_
    exact e_skip (e_tnot (e_trb (e_app (e_cons (e_var rfl) (e_cons e_c (e_cons (e_lst (e_cons (e_var rfl) (e_cons (e_lst (e_cons (e_var rfl) e_nil) (lz (by simp))) (e_cons (e_var rfl) e_nil))) (lz (by simp))) (e_cons e_c (e_cons hc e_nil))))) (hr c))))
  have gr : Grew m (m ++ [some (.lst [.int 0])]) := ⟨hm1, _, rfl⟩
  have hnw : m_need_words (m ++ [some (.lst [.int 0])]) [eObj n, .lst [eS bs], .int 1] = .ok .non (m ++ [some (.lst [.int 0])]) := p_need_words (ws := [bs]) (least := 1) hm1 h (wds_lst (ws := [bs])) (by simp) (by simp) (fun w hw => by rw [List.mem_singleton.mp hw]; exact hb)
  have i1 := fun b => p_isnt_between (x := .int 0) (y := .int 1) hm1 (p_isnt_int_bl (b := b) hm1)
  have bt : ∀ i : Int, (decide (0 ≤ i) && decide (i ≤ 1)) = false → m_is_between (m ++ [some (.lst [.int 0])]) [.int i, .int 0, .int 1] = .ok (.bl false) (m ++ [some (.lst [.int 0])]) := fun i hi => by rw [p_is_between hm1, hi]
  rcases (by omega : k = 0 ∨ k = 1 ∨ k = 2 ∨ k = 3 ∨ k = 4 ∨ k = 5 ∨ k = 6) with rfl | rfl | rfl | rfl | rfl | rfl | rfl
  · exact ⟨_, _, key _ _ rfl fun c => p_refA hm1 (p_askedS hm1 rfl hnw (p_need_signX hm1 rfl (i1 true))) (t := "bool") rfl rfl rfl (p_same hm1 12 _ trivial), gr⟩
  · exact ⟨_, _, key _ _ rfl fun c => p_refA hm1 (p_askedS hm1 rfl hnw (p_need_signX hm1 rfl (i1 false))) (t := "bool") rfl rfl rfl (p_same hm1 12 _ trivial), gr⟩
  · exact ⟨_, _, key _ _ rfl fun c => p_refA hm1 (p_askedS hm1 rfl hnw (p_need_signX hm1 rfl (bt 2 rfl))) (t := "int") rfl rfl rfl (p_same hm1 12 _ trivial), gr⟩
  · exact ⟨_, _, key _ _ rfl fun c => p_refA hm1 (p_askedS hm1 rfl hnw (p_need_signX hm1 rfl (bt (-1) rfl))) (t := "int") rfl rfl rfl (p_same hm1 12 _ trivial), gr⟩
  · exact ⟨_, _, key _ _ rfl fun c => p_refA hm1 (p_askedS hm1 rfl hnw (p_need_signX hm1 rfl (p_isnt_between hm1 (p_isnt_int hm1 (t := "NoneType") rfl rfl)))) (t := "NoneType") rfl rfl rfl (p_same hm1 12 _ trivial), gr⟩
  · exact ⟨_, _, key _ _ rfl fun c => p_refA hm1 (p_askedS hm1 rfl hnw (p_need_signX hm1 rfl (p_isnt_between hm1 (p_isnt_int hm1 (t := "str") rfl rfl)))) (t := "str") rfl rfl rfl (p_same hm1 12 _ (by show ("0" : Str).length ≤ 1000; decide)), gr⟩
  · have hc : (m ++ [some (C.lst [.int 0])])[m.length]? = some (some (.lst [.int 0])) := cell_get
    have hl : (D.cel m.length).low (m ++ [some (C.lst [.int 0])]).length = true := by
      show decide (m.length < (m ++ [some (C.lst [.int 0])]).length) = true
      simp
    refine ⟨_, _, key _ _ rfl fun c => p_refB hm1 (p_askedS hm1 hl hnw (p_need_signX hm1 hl (p_isnt_between hm1 (p_isnt_int hm1 (ck_ty hc) rfl)))) hc (by simp) (fun x hx => ?_), ?_⟩
    · rw [List.mem_singleton.mp hx]
      trivial
    · exact grew_set (i := 0) hm1 rfl
end
end LW
namespace LW
open PySem PySem.Spec PyProof.Rows L2 DL
def x2 (bs : List Bool) : Str := ⟨(bs.map bitC ++ [50]).toArray⟩
theorem x2_len {bs : List Bool} : (x2 bs).length = bs.length + 1 := by
  show ((bs.map bitC ++ [50]).toArray).size = _
  simp
theorem add_x2 {m : Mem} {bs : List Bool} (h : bs.length ≤ 900) : opAdd m (eS bs) (.str "2") = .ok (.str (x2 bs)) m := by
  show (if _ then _ else _) = _
  rw [if_pos (by rw [bitS_len]; exact lz (k := bs.length + 1) (by omega))]
  have e : bitS bs ++ "2" = x2 bs := TL.ext_tl (by rw [TL.tl_append]; rfl)
  rw [e]
theorem good_x2 {k : Nat} {bs : List Bool} : good k (.str (x2 bs)) = false := by
  have e : (x2 bs).cps.toList.all isBit = false := by
    show ((bs.map bitC ++ [50]).all isBit) = false
    rw [List.all_append]
    have : isBit 50 = false := by decide
    simp [this]
  show ((_ && (x2 bs).cps.toList.all isBit) && _) = false
  rw [e]
  simp
theorem good_long {bs : List Bool} : good bs.length (.str (bitS (bs ++ [false]))) = false := by
  have e : decide ((bitS (bs ++ [false])).length = bs.length) = false := decide_eq_false (by rw [bitS_len]; simp)
  show ((decide ((bitS (bs ++ [false])).length ≤ 24) && (bitS (bs ++ [false])).cps.toList.all isBit) && decide ((bitS (bs ++ [false])).length = bs.length)) = false
  rw [e, Bool.and_false]
theorem e_disp1 {env : DL.Env} {m : Mem} (hm : Ok m) : fDisp ((fC (.str "a"), fC (.int 1)) :: []) env m = .ok (.dk [.inr "a"] [.int 1]) m := by
  have hp : fPairs ((fC (.str "a"), fC (.int 1)) :: []) env (m ++ [some (.dk [] [])]) = .ok [(.str "a", .int 1)] (m ++ [some (.dk [] [])]) := by
    simp only [fPairs, fC, R.bind]
  unfold fDisp
  rw [hp, R.bind, cell_get, show keysAll [(D.str "a", D.int 1)] = some [.inr "a"] from rfl]
  dsimp only
  rw [if_pos (by decide), cell_set]
  exact leave_app hm rfl
theorem mulL_one {m : Mem} {x : D} {k : Nat} (h : k ≤ 1000) : mulL m (.lst [x]) (k : Int) = .ok (.lst (List.replicate k x)) m := by
  unfold mulL
  rw [show lstOf m (.lst [x]) = some [x] from rfl]
  dsimp only
  rw [if_pos ⟨by omega, by omega, by rw [Int.toNat_natCast, List.length_singleton, Nat.one_mul]; exact lz h⟩, Int.toNat_natCast]
  congr 2
  simp
theorem mulC_of {m : Mem} {a : D} {k : Int} {xs : List D} (h : mulL m a k = .ok (.lst xs) m) : opMulC m a (.int k) = .ok (.cel m.length) (m ++ [some (.lst xs)]) := by
  unfold opMulC
  dsimp only
  rw [h]
theorem mulC_one {m : Mem} {x : D} {k : Nat} (h : k ≤ 1000) : opMulC m (.lst [x]) (eI k) = .ok (.cel m.length) (m ++ [some (.lst (List.replicate k x))]) := mulC_of (mulL_one h)
def vW (m : Mem) (bs : List Bool) : List D := [.non, .cel (m.length + 0), .str "", .cel (m.length + 1), .cel (m.length + 2), .tup [eS bs, .int 5], .dk [.inr "a"] [.int 1], .cel (m.length + 3), .cel (m.length + 4), .cel (m.length + 5)]
def cW (bs : List Bool) : List (Option C) := [some (.lst []), some (.lst [eS (bs ++ [false])]), some (.lst [eS bs, .non]), some (.lst [.lst [eS bs]]), some (.lst (List.replicate 201 (eS bs))), some (.lst [.str (x2 bs)])]
theorem e_lstK {env : DL.Env} {m m1 : Mem} {fs : FA} {ds : List D} {k : Nat} {m2 : Mem} (hs : fs env m = .ok ds m1) (hz : ds.length ≤ 1000) (hk : m1.length = k) (h2 : m1 ++ [some (.lst ds)] = m2) : fLstC fs env m = .ok (.cel k) m2 := by
  rw [e_lstC hs (lz hz), hk, h2]
theorem ok_cW {m : Mem} {bs : List Bool} (hm : Ok m) : ∀ i, Ok (m ++ (cW bs).take i) := by
  intro i
  have h1 : ∀ k, lowM k (cW bs) = true := fun k => by
    have hr : lowL k (List.replicate 201 (eS bs)) = true := lowL_all fun x hx => by rw [List.eq_of_mem_replicate hx]; rfl
    show (lowL k [] && (lowL k [eS (bs ++ [false])] && (lowL k [eS bs, .non] && (lowL k [.lst [eS bs]] && (lowL k (List.replicate 201 (eS bs)) && (lowL k [.str (x2 bs)] && lowM k [])))))) = true
    rw [hr]
    rfl
  have h2 : ∀ k, lowM k ((cW bs).take i) = true := fun k => by
    have h3 : ∀ (xs : Mem) (i : Nat), lowM k xs = true → lowM k (xs.take i) = true := by
      intro xs
      induction xs with
      | nil => intro i _; cases i <;> rfl
      | cons x xs ih =>
        intro i h
        cases i with
        | zero => rfl
        | succ i =>
          rw [List.take_succ_cons]
          cases x with
          | none =>
            unfold lowM at h ⊢
            exact ih i h
          | some c =>
            unfold lowM at h ⊢
            rw [Bool.and_eq_true] at h ⊢
            exact ⟨h.1, ih i h.2⟩
    exact h3 _ i (h1 k)
  exact lowM_app (lowM_mono (by simp) _ hm) (h2 _)
section
variable {m : Mem} {n : Nt} {j k : Nat} {b : Bool} {bs : List Bool} {z5 z7 z8 : Option D}
theorem d_vW {env : DL.Env} (hm : Ok m) (hbl : bs.length ≤ 24) (h4 : env[4]? = some (some (eS bs))) :
    fLst (aCons (fC .non) (aCons (fLstC aNil) (aCons (fC (.str "")) (aCons (fLstC (aCons (fBin opAdd (fVar 4) (fC (.str "0"))) aNil)) (aCons (fLstC (aCons (fVar 4) (aCons (fC .non) aNil))) (aCons (fTup (aCons (fVar 4) (aCons (fC (.int 5)) aNil))) (aCons (fDisp ((fC (.str "a"), fC (.int 1)) :: [])) (aCons (fLstC (aCons (fLst (aCons (fVar 4) aNil)) aNil)) (aCons (fBin opMulC (fLst (aCons (fVar 4) aNil)) (fC (.int 201))) (aCons (fLstC (aCons (fBin opAdd (fVar 4) (fC (.str "2"))) aNil)) aNil)))))))))) env m = .ok (.lst (vW m bs)) (m ++ cW bs) := by
  have hok := ok_cW (bs := bs) hm
  have a0 : ∀ m, opAdd m (eS bs) (.str "0") = .ok (eS (bs ++ [false])) m := fun m => add_bits (b := [false]) (by simp; omega)
  have st : ∀ i x, (cW bs)[i]? = some x → m ++ (cW bs).take i ++ [x] = m ++ (cW bs).take (i + 1) := fun i x hx => by
    rw [List.take_succ, hx, List.append_assoc]
    rfl
  have ln : ∀ i, i ≤ 6 → (m ++ (cW bs).take i).length = m.length + i := fun i hi => by
    rw [List.length_append, List.length_take, show (cW bs).length = 6 from rfl]
    omega
  have s0 : m = m ++ (cW bs).take 0 := by simp
  have k1 : fLstC aNil env m = .ok (.cel (m.length + 0)) (m ++ (cW bs).take 1) := e_lstK e_nil (by simp) rfl (by rw [← st 0 _ rfl, ← s0])
  have k2 : fLstC (aCons (fBin opAdd (fVar 4) (fC (.str "0"))) aNil) env (m ++ (cW bs).take 1) = .ok (.cel (m.length + 1)) (m ++ (cW bs).take 2) := e_lstK (e_cons (e_bin (e_var h4) e_c (a0 _)) e_nil) (by simp) (ln 1 (by omega)) (st 1 _ rfl)
  have k3 : fLstC (aCons (fVar 4) (aCons (fC .non) aNil)) env (m ++ (cW bs).take 2) = .ok (.cel (m.length + 2)) (m ++ (cW bs).take 3) := e_lstK (e_cons (e_var h4) (e_cons e_c e_nil)) (by simp) (ln 2 (by omega)) (st 2 _ rfl)
  have k4 : fLstC (aCons (fLst (aCons (fVar 4) aNil)) aNil) env (m ++ (cW bs).take 3) = .ok (.cel (m.length + 3)) (m ++ (cW bs).take 4) := e_lstK (e_cons (e_lst (e_cons (e_var h4) e_nil) (lz (by simp))) e_nil) (by simp) (ln 3 (by omega)) (st 3 _ rfl)
  have k5 : fBin opMulC (fLst (aCons (fVar 4) aNil)) (fC (.int 201)) env (m ++ (cW bs).take 4) = .ok (.cel (m.length + 4)) (m ++ (cW bs).take 5) := e_bin (e_lst (e_cons (e_var h4) e_nil) (lz (by simp))) e_c ((mulC_one (k := 201) (by omega)).trans (by rw [ln 4 (by omega), st 4 _ rfl]))
  have k6 : fLstC (aCons (fBin opAdd (fVar 4) (fC (.str "2"))) aNil) env (m ++ (cW bs).take 5) = .ok (.cel (m.length + 5)) (m ++ (cW bs).take 6) := e_lstK (e_cons (e_bin (e_var h4) e_c (add_x2 (by omega))) e_nil) (by simp) (ln 5 (by omega)) (st 5 _ rfl)
  exact e_lst (e_cons e_c (e_cons k1 (e_cons e_c (e_cons k2 (e_cons k3 (e_cons (e_tup (e_cons (e_var h4) (e_cons e_c e_nil)) (lz (by simp))) (e_cons (e_disp1 (hok 3)) (e_cons k4 (e_cons k5 (e_cons k6 e_nil)))))))))) (lz (by simp [vW]))
theorem d_refW (hm : Ok m) (h : NOk n) (hb : bs.length = n.ins) (hk : k < 10) : ∃ (w7 : Option D) (m' : Mem), xRefW [some (.cel j), some (eNet n), some (eObj n), some (.bl b), some (eS bs), z5, some (eI k), z7, z8] m = .nx [some (.cel j), some (eNet n), some (eObj n), some (.bl b), some (eS bs), z5, some (eI k), w7, z8] m' ∧ Grew m m' := by
  have hi := h.i
  have hm1 : Ok (m ++ cW bs) := ok_cW (bs := bs) hm 6
  have key : ∀ (v : D) (m2 : Mem), (vW m bs)[k]? = some v → (∀ (y : D) (c : Bool), m__law_refused (m ++ cW bs) [v, .int 3, .lst [eObj n, v, y], .str "words", .bl c] = .ok (.bl true) m2) → xRefW [some (.cel j), some (eNet n), some (eObj n), some (.bl b), some (eS bs), z5, some (eI k), z7, z8] m = .nx [some (.cel j), some (eNet n), some (eObj n), some (.bl b), some (eS bs), z5, some (eI k), some v, z8] m2 := by
    intro v m2 hv hr
    obtain ⟨c, hc⟩ := e_by (m := m ++ cW bs) (b := b) (k := k) (env := [some (.cel j), some (eNet n), some (eObj n), some (.bl b), some (eS bs), z5, some (eI k), some v, z8]) (by omega) rfl rfl
    obtain ⟨x, hx⟩ := e_odd (m := m ++ cW bs) (k := k) (env := [some (.cel j), some (eNet n), some (eObj n), some (.bl b), some (eS bs), z5, some (eI k), some v, z8]) (fa := fC (.bl true)) (fb := fC (.int 0)) (by omega) rfl e_c e_c
    unfold xRefW
    refine e_seq (e_set (e_bin (d_vW hm (by omega) rfl) (e_var rfl) (ix_at hv))) ?_
    exact e_skip (e_tnot (e_trb (e_app (e_cons (e_var rfl) (e_cons e_c (e_cons (e_lst (e_cons (e_var rfl) (e_cons (e_var rfl) (e_cons hx e_nil))) (lz (by simp))) (e_cons e_c (e_cons hc e_nil))))) (hr x c))))
  have gr : Grew m (m ++ cW bs) := ⟨hm1, _, rfl⟩
  have lc : ∀ i, i < 6 → (D.cel (m.length + i)).low (m ++ cW bs).length = true := fun i hi => by
    show decide (m.length + i < (m ++ cW bs).length) = true
    rw [List.length_append, show (cW bs).length = 6 from rfl]
    exact decide_eq_true (by omega)
  have cell : ∀ (i : Nat) (xs : List D), i < 6 → (cW bs)[i]? = some (some (.lst xs)) → (∀ d ∈ xs, okItem d) → (∀ d ∈ xs, okS 11 d) → xs.length ≤ 900 → (¬ (1 ≤ xs.length ∧ xs.length ≤ 200) ∨ xs.all (good n.ins) = false) → ∀ (y : D) (c : Bool), m__law_refused (m ++ cW bs) [.cel (m.length + i), .int 3, .lst [eObj n, .cel (m.length + i), y], .str "words", .bl c] = .ok (.bl true) ((m ++ cW bs).set (m.length + i) (some (.lst (xs ++ [.int 0])))) := by
    intro i xs hi6 hx h1 h2 h3 h4 y c
    have hc := (cel_at (m := m) (ext := cW bs) i).trans hx
    exact p_refB hm1 (p_askedW hm1 (lc i hi6) (p_need_wordsX hm1 (lc i hi6) (vls_cel hc) h1 (by omega) h4)) hc (by omega) h2
  have gs : ∀ (i : Nat) (xs : List D), i < 6 → (cW bs)[i]? = some (some (.lst xs)) → Grew m ((m ++ cW bs).set (m.length + i) (some (.lst (xs ++ [.int 0])))) := fun i xs hi hx => grew_set hm1 (lowL_app (lowM_get hm1 ((cel_at (m := m) (ext := cW bs) i).trans hx)) rfl)
  have ow : okItem (eS bs) := by
    show (bitS bs).length ≤ 1000
    rw [bitS_len]
    omega
  have os : ∀ k, okS (k + 1) (eS bs) := fun k => okS_bits (by omega)
  rcases (by omega : k = 0 ∨ k = 1 ∨ k = 2 ∨ k = 3 ∨ k = 4 ∨ k = 5 ∨ k = 6 ∨ k = 7 ∨ k = 8 ∨ k = 9) with rfl | rfl | rfl | rfl | rfl | rfl | rfl | rfl | rfl | rfl
  · exact ⟨_, _, key _ _ rfl fun y c => p_refA hm1 (p_askedW hm1 rfl (p_need_wordsN hm1 rfl (t := "NoneType") rfl rfl)) (t := "NoneType") rfl rfl rfl (p_same hm1 12 _ trivial), gr⟩
  · exact ⟨_, _, key _ _ rfl (cell 0 [] (by omega) rfl (by simp) (by simp) (by simp) (.inl (by simp))), gs 0 _ (by omega) rfl⟩
  · exact ⟨_, _, key _ _ rfl fun y c => p_refA hm1 (p_askedW hm1 rfl (p_need_wordsN hm1 rfl (t := "str") rfl rfl)) (t := "str") rfl rfl rfl (p_same hm1 12 _ (by show ("" : Str).length ≤ 1000; decide)), gr⟩
  · refine ⟨_, _, key _ _ rfl (cell 1 [eS (bs ++ [false])] (by omega) rfl (fun d hd => ?_) (fun d hd => ?_) (by simp) (.inr ?_)), gs 1 _ (by omega) rfl⟩
    · rw [List.mem_singleton.mp hd]
      show (bitS (bs ++ [false])).length ≤ 1000
      rw [bitS_len]
      simp
      omega
    · rw [List.mem_singleton.mp hd]
      exact okS_bits (by simp; omega)
    · have := good_long (bs := bs)
      rw [hb] at this
      simp [List.all, eS, this]
  · refine ⟨_, _, key _ _ rfl (cell 2 [eS bs, .non] (by omega) rfl (fun d hd => ?_) (fun d hd => ?_) (by simp) (.inr ?_)), gs 2 _ (by omega) rfl⟩
    · rcases List.mem_cons.mp hd with rfl | hd
      · exact ow
      · rw [List.mem_singleton.mp hd]
        trivial
    · rcases List.mem_cons.mp hd with rfl | hd
      · exact os 10
      · rw [List.mem_singleton.mp hd]
        trivial
    · simp [List.all, good]
  · refine ⟨_, _, key _ _ rfl fun y c => p_refA hm1 (p_askedW hm1 rfl (p_need_wordsX hm1 rfl vls_tup (fun d hd => ?_) (by simp) (.inr ?_))) (t := "tuple") rfl rfl rfl (p_same hm1 12 _ (okS_t2 (os 10) trivial)), gr⟩
    · rcases List.mem_cons.mp hd with rfl | hd
      · exact ow
      · rw [List.mem_singleton.mp hd]
        trivial
    · simp [List.all, good]
  · exact ⟨_, _, key _ _ rfl fun y c => p_refC hm1 (p_askedW hm1 rfl (p_need_wordsN hm1 rfl (t := "dict") rfl rfl)), gr⟩
  · refine ⟨_, _, key _ _ rfl (cell 3 [.lst [eS bs]] (by omega) rfl (fun d hd => ?_) (fun d hd => ?_) (by simp) (.inr ?_)), gs 3 _ (by omega) rfl⟩
    · rw [List.mem_singleton.mp hd]
      trivial
    · rw [List.mem_singleton.mp hd]
      exact ⟨by simp, fun x hx => by rw [List.mem_singleton.mp hx]; exact os 9⟩
    · simp [List.all, good]
  · refine ⟨_, _, key _ _ rfl (cell 4 (List.replicate 201 (eS bs)) (by omega) rfl (fun d hd => ?_) (fun d hd => ?_) (by rw [List.length_replicate]; omega) (.inl (by rw [List.length_replicate]; omega))), gs 4 _ (by omega) rfl⟩
    · rw [List.eq_of_mem_replicate hd]
      exact ow
    · rw [List.eq_of_mem_replicate hd]
      exact os 10
  · refine ⟨_, _, key _ _ rfl (cell 5 [.str (x2 bs)] (by omega) rfl (fun d hd => ?_) (fun d hd => ?_) (by simp) (.inr ?_)), gs 5 _ (by omega) rfl⟩
    · rw [List.mem_singleton.mp hd]
      show (x2 bs).length ≤ 1000
      rw [x2_len]
      omega
    · rw [List.mem_singleton.mp hd]
      show (x2 bs).length ≤ 1000
      rw [x2_len]
      omega
    · simp [List.all, good_x2]
end
end LW
namespace LW
open PySem PySem.Spec PyProof.Rows L2 DL
theorem p_ref {j c : Nat} {base m : Mem} {n : Nt} {b : Bool} (hb : Ok base) (hj : j < base.length) (hx : Bx j c base m) (hc : c < 700000) (h : NOk n) :
    ∃ m', m__law_refused_right m [.cel j, eNet n, eObj n, .bl b] = .ok (.bl true) m' ∧ Bx j (c + 24) base m' := by
  have hi := h.i
  obtain ⟨bs, m0, hbl, hwd, hx0⟩ := p_word (k := n.ins) hb hj hx (by omega) (by omega)
  have hm0 : Ok m0 := hx0.ok hb
  have hE := h.endN (s := 0) (by omega)
  obtain ⟨e1, m1, hf1, ⟨w5, w6, w7, rfl⟩, g1⟩ := for_rng (k := 4) (tg := tName 5) (fb := fFor (fRng1 (aCons (fC (.int 6)) aNil)) (tName 6) xRefN) (env := [some (.cel j), some (eNet n), some (eObj n), some (.bl b), some (eS bs), none, none, none, none]) (m := m0)
    (fun i env m1 => (∃ w5 w6 w7 : Option D, env = [some (.cel j), some (eNet n), some (eObj n), some (.bl b), some (eS bs), w5, w6, w7, none]) ∧ Grew m0 m1)
    ⟨⟨none, none, none, rfl⟩, Grew.refl hm0⟩ (fun i env m1 hi hI => by
      obtain ⟨⟨w5, w6, w7, rfl⟩, g⟩ := hI
      obtain ⟨e2, m2, hf2, ⟨v6, v7, rfl⟩, g2⟩ := for_rng (k := 6) (tg := tName 6) (fb := xRefN) (env := [some (.cel j), some (eNet n), some (eObj n), some (.bl b), some (eS bs), some (eI i), w6, w7, none]) (m := m1)
        (fun k env m2 => (∃ w6 w7 : Option D, env = [some (.cel j), some (eNet n), some (eObj n), some (.bl b), some (eS bs), some (eI i), w6, w7, none]) ∧ Grew m0 m2)
        ⟨⟨w6, w7, rfl⟩, g⟩ (fun k env m2 hk hI => by
          obtain ⟨⟨w6, w7, rfl⟩, g⟩ := hI
          obtain ⟨v7, m3, hq, g3⟩ := d_refN (n := n) (j := j) (wh := i) (k := k) (b := b) (bs := bs) (z7 := w7) (z8 := none) g.1 hi hk
          exact ⟨_, rfl, _, m3, hq, ⟨_, _, rfl⟩, g.trans g3⟩)
      exact ⟨_, rfl, _, m2, e_for (e_rng (n := 6) (by omega) e_c) hf2, ⟨_, _, _, rfl⟩, g2⟩)
  obtain ⟨e2, m2, hf2, ⟨v6, v7, rfl⟩, g2⟩ := for_rng (k := 10) (tg := tName 6) (fb := xRefW) (env := [some (.cel j), some (eNet n), some (eObj n), some (.bl b), some (eS bs), w5, w6, w7, none]) (m := m1)
    (fun k env m2 => (∃ w6 w7 : Option D, env = [some (.cel j), some (eNet n), some (eObj n), some (.bl b), some (eS bs), w5, w6, w7, none]) ∧ Grew m0 m2)
    ⟨⟨w6, w7, rfl⟩, g1⟩ (fun k env m2 hk hI => by
      obtain ⟨⟨w6, w7, rfl⟩, g⟩ := hI
      obtain ⟨v7, m3, hq, g3⟩ := d_refW (n := n) (j := j) (k := k) (b := b) (bs := bs) (z5 := w5) (z7 := w7) (z8 := none) g.1 h hbl hk
      exact ⟨_, rfl, _, m3, hq, ⟨_, _, rfl⟩, g.trans g3⟩)
  obtain ⟨e3, m3, hf3, ⟨u6, u7, rfl⟩, g3⟩ := for_rng (k := 7) (tg := tName 6) (fb := xRefS) (env := [some (.cel j), some (eNet n), some (eObj n), some (.bl b), some (eS bs), w5, v6, v7, none]) (m := m2)
    (fun k env m2 => (∃ w6 w7 : Option D, env = [some (.cel j), some (eNet n), some (eObj n), some (.bl b), some (eS bs), w5, w6, w7, none]) ∧ Grew m0 m2)
    ⟨⟨v6, v7, rfl⟩, g2⟩ (fun k env m2 hk hI => by
      obtain ⟨⟨w6, w7, rfl⟩, g⟩ := hI
      obtain ⟨v7, m3, hq, g3⟩ := d_refS (n := n) (j := j) (k := k) (b := b) (bs := bs) (z5 := w5) (z7 := w7) (z8 := none) g.1 h hbl hk
      exact ⟨_, rfl, _, m3, hq, ⟨_, _, rfl⟩, g.trans g3⟩)
  have hm3 : Ok m3 := g3.1
  obtain ⟨ws, hws⟩ : ∃ ws : List (List Bool), ws = List.replicate 200 bs := ⟨_, rfl⟩
  have wl : ws.length = 200 := by rw [hws, List.length_replicate]
  have wm : ws.map eS = List.replicate 200 (eS bs) := by rw [hws, List.map_replicate]
  have ww : ∀ w ∈ ws, w.length = n.ins := fun w hw => by
    rw [hws] at hw
    rw [List.eq_of_mem_replicate hw]
    exact hbl
  have hrun := p_run_law (ws := ws) hm3 hE (by omega) ww
  rw [wl, wm] at hrun
  have hask := p_asked3 (d := .lst (ws.map eS)) (ws := ws) (n := n) (s := 0) (b := b) hm3 h (by omega) wds_lst (by omega) (by omega) ww
  rw [wm] at hask
  have hsame := p_same hm3 12 (.lst [.str "told", resF (endN 0 n) ws]) (okS_2 okS_told (okS_res hE))
  have hne : (runF (endN 0 n) (endN 0 n).first (ws.map fun w => (w, ([] : Hs)))).2 ≠ [] := by
    intro h0
    have := (runF_len hE rfl (ws.map fun w => (w, ([] : Hs)))).2.1
    rw [h0, List.length_map, wl] at this
    simp at this
  refine ⟨m0, ?_, hx0.le (by omega)⟩
  obtain ⟨_, ext, hext⟩ := g3
  refine fn_rt rfl (d := .bl true) (m' := m3) ?_ (leave_take (m := m0) ?_ ?_ rfl)
  · rw [b_ref_eq]
    refine e_seq (e_set (e_app (e_cons (e_var rfl) (e_cons (e_bin (e_var rfl) e_c nx0) e_nil)) hwd)) ?_
    refine e_seq (e_for (e_rng (n := 4) (by omega) e_c) hf1) ?_
    refine e_seq (e_for (e_rng (n := 10) (by omega) e_c) hf2) ?_
    refine e_seq (e_for (e_rng (n := 7) (by omega) e_c) hf3) ?_
    refine e_seq (e_set (e_app (e_cons (e_app (e_cons (e_var rfl) (e_cons e_c e_nil)) (p_end (s := 0) (by omega) hm3 h)) (e_cons (e_bin (e_lst (e_cons (e_var rfl) e_nil) (lz (by simp))) e_c (mul_one (k := 200) (by omega))) (e_cons (e_bin (e_lst (e_cons (e_lst e_nil (lz (by simp))) e_nil) (lz (by simp))) e_c (mul_one (k := 200) (by omega))) e_nil))) hrun)) ?_
    exact e_ret (e_app (e_cons (e_app (e_cons e_c (e_cons (e_lst (e_cons (e_var rfl) (e_cons (e_bin (e_lst (e_cons (e_var rfl) e_nil) (lz (by simp))) e_c (mul_one (k := 200) (by omega))) (e_cons e_c e_nil))) (lz (by simp))) (e_cons (e_var rfl) e_nil))) hask) (e_cons (e_lst (e_cons e_c (e_cons (e_tup (e_cons (e_bin (e_var rfl) e_c (ix_lst (at1 _ _ _))) (e_cons (e_bin (e_bin (e_var rfl) e_c (ix_lst (at0 _ _))) e_neg1 (ix_lst (at_last hne))) e_nil)) (lz (by simp))) e_nil)) (lz (by simp))) e_nil)) hsame)
  · rw [hx.len, hext, ← hx0.len]
    exact List.take_left' rfl
  · rw [hx.len, ← hx0.len]
    exact hm0
end LW
namespace LW
open PySem PySem.Spec PyProof.Rows L2 DL
def xLaw : FS := fSeq (fSet 2 (fApp m__law_box (aCons (fApp m__law_cell (aCons (fVar 0) (aCons (fVar 1) aNil))) aNil))) (fSeq (fPar 3 4 (fBin opEq (fApp m__law_take (aCons (fVar 2) (aCons (fC (.int 2)) aNil))) (fC (.int 1))) (fAnd (fBin opEq (fApp m__law_take (aCons (fVar 2) (aCons (fC (.int 8)) aNil))) (fC (.int 0))) (fBin opEq (fVar 1) (fC (.int 0))))) (fSeq (fSet 5 (fIf (fTr (fVar 4)) (fLst (aCons (fC (.int 24)) (aCons (fC (.int 24)) (aCons (fBin opAdd (fC (.int 20)) (fApp m__law_take (aCons (fVar 2) (aCons (fC (.int 41)) aNil)))) (aCons (fC (.int 24)) aNil))))) (fLst (aCons (fApp m__law_take (aCons (fVar 2) (aCons (fC (.int 4)) aNil))) (aCons (fApp m__law_take (aCons (fVar 2) (aCons (fC (.int 5)) aNil))) (aCons (fApp m__law_take (aCons (fVar 2) (aCons (fC (.int 10)) aNil))) (aCons (fApp m__law_take (aCons (fVar 2) (aCons (fC (.int 5)) aNil))) aNil))))))) (fSeq (fSet 6 (fApp m__law_drawn (aCons (fVar 2) (aCons (fBin opIx (fVar 5) (fC (.int 0))) (aCons (fBin opIx (fVar 5) (fC (.int 1))) (aCons (fBin opIx (fVar 5) (fC (.int 2))) (aCons (fBin opIx (fVar 5) (fC (.int 3))) (aCons (fBin opIx (fLst (aCons (fC (.int 0)) (aCons (fC (.int 3)) (aCons (fC (.int 6)) aNil)))) (fApp m__law_take (aCons (fVar 2) (aCons (fC (.int 3)) aNil)))) aNil)))))))) (fSeq (fSet 7 (fApp m__law_made (aCons (fVar 6) aNil))) (fSeq (fIfS (tfOr (tfNot (fTr (fApp m__law_ends_right (aCons (fVar 6) (aCons (fVar 7) (aCons (fVar 3) aNil)))))) (tfNot (fTr (fApp m__law_extremes_right (aCons (fVar 2) (aCons (fVar 6) (aCons (fVar 7) (aCons (fNotT (fTr (fVar 3))) aNil)))))))) (fRet (fC (.bl false))) fNext) (fIfS (tfOr (tfNot (fTr (fApp m__law_hurt_right (aCons (fVar 2) (aCons (fVar 6) (aCons (fVar 7) aNil)))))) (tfNot (fTr (fApp m__law_refused_right (aCons (fVar 2) (aCons (fVar 6) (aCons (fVar 7) (aCons (fVar 3) aNil)))))))) (fRet (fC (.bl false))) fNext))))))
theorem b_law_eq : b_law = fSeq (fFor (fRng1 (aCons (fCall (op2 opMax2) (aCons (fC (.int 2)) (aCons (fCall (op2 opMin2) (aCons (fC (.int 3)) (aCons (fCall (op1 opLen) (aCons (fVar 0) aNil)) aNil))) aNil))) aNil)) (tName 1) xLaw) (fRet (fC (.bl true))) := rfl
theorem fl_len {m : Mem} {ns : List Int} : opLen m (.fl ns) = .ok (eI ns.length) m := by
  have e : lenD m (.fl ns) = some ns.length := by
    have q : lenD m (.fl ns) = some (ns.map D.int).length := rfl
    rw [q, List.length_map]
  unfold opLen
  rw [e]
  rfl
theorem fl_ix {m : Mem} {ns : List Int} {k : Nat} {x : Int} (h : ns[k]? = some x) : opIx m (.fl ns) (eI k) = .ok (.int x) m := by
  simp only [opIx, seqOf, rlstOf, eI, atI_nat, List.getElem?_map, h, Option.map_some]
theorem ints_map : ∀ ns : List Int, intsD (ns.map D.int) = some ns
  | [] => rfl
  | n :: ns => by
    show (intsD (ns.map D.int)).map _ = _
    rw [ints_map ns]
    rfl
theorem p_cell {m : Mem} {ns : List Int} {k : Nat} (hm : Ok m) (hk : k ≤ 3) : ∃ x : Int, m__law_cell m [.fl ns, eI k] = .ok (.int x) m := by
  by_cases h : k < ns.length
  · refine ⟨ns[k], fn_rt rfl (d := .int ns[k]) (m' := m) ?_ (leave_same hm rfl)⟩
    unfold b__law_cell
    exact e_ret (e_if1 (e_fB (e_bin (e_var rfl) (e_call1 (e_var rfl) fl_len) (by rw [lt_int, decide_eq_true h]))) (e_bin (e_var rfl) (e_var rfl) (fl_ix (List.getElem?_eq_getElem h))))
  · obtain ⟨zs, hsub, hcut⟩ := cut_map D.int ns none (some 1)
    refine ⟨6421 * (k : Int) + zs.sum % 1000003, fn_rt rfl (d := .int (6421 * (k : Int) + zs.sum % 1000003)) (m' := m) ?_ (leave_same hm rfl)⟩
    unfold b__law_cell
    have hs : slD m none (some 1) (.fl ns) = .ok (.lst (zs.map D.int)) m := by
      show R.ok (D.lst (DL.cutD (ns.map D.int) none (some 1))) m = _
      rw [hcut]
    have hsum : opSum m (.lst (zs.map D.int)) = .ok (.int zs.sum) m := by
      show (match intsD (zs.map D.int) with | some ns => _ | none => _) = _
      rw [ints_map]
    have hmul : opMul m (.int 6421) (eI k) = .ok (.int (6421 * (k : Int))) m := by
      have hc : CMul 6421 (k : Int) := .inl ⟨by omega, by omega⟩
      show (if CMul 6421 (k : Int) then R.ok (D.int (6421 * (k : Int))) m else R.st) = _
      rw [if_pos hc]
    have hmod : opMod m (.int zs.sum) (.int 1000003) = .ok (.int (zs.sum % 1000003)) m := by
      show (if (0 : Int) < 1000003 then R.ok (D.int (zs.sum % 1000003)) m else R.st) = _
      rw [if_pos (by omega)]
    exact e_ret (e_if0 (e_fB (e_bin (e_var rfl) (e_call1 (e_var rfl) fl_len) (by rw [lt_int, decide_eq_false h]))) (e_bin (e_bin e_c (e_var rfl) hmul) (e_bin (e_call1 (e_call1 (e_sl (e_var rfl) rfl (e_some e_c) hs) hsum) rfl) e_c hmod) rfl))
theorem p_box {m : Mem} {x : Int} : ∃ (a : Int) (b : Bool) (c : Int), 0 ≤ c ∧ c < 2147483648 ∧ m__law_box m [.int x] = .ok (.cel m.length) (m ++ [some (bxC a b c 0)]) := by
  obtain ⟨y, hy⟩ : ∃ y : Int, y = if x < 0 then -x else x := ⟨_, rfl⟩
  have habs : opAbs m (.int x) = .ok (.int y) m := by rw [hy]; rfl
  have hpow : opPow m (.int 10) (.int 18) = .ok (.int (10 ^ (18 : Int).toNat)) m := by
    have hc : CPow 10 18 := ⟨by omega, by omega, by omega⟩
    show (if CPow 10 18 then R.ok (D.int (10 ^ (18 : Int).toNat)) m else R.st) = _
    rw [if_pos hc]
  have hmod : opMod m (.int y) (.int 2147483629) = .ok (.int (y % 2147483629)) m := by
    show (if (0 : Int) < 2147483629 then R.ok (D.int (y % 2147483629)) m else R.st) = _
    rw [if_pos (by omega)]
  have h1 := Int.emod_lt_of_pos y (show (0 : Int) < 2147483629 by omega)
  have h0 := Int.emod_nonneg y (show (2147483629 : Int) ≠ 0 by omega)
  obtain ⟨q, hq⟩ : ∃ q : Bool, opGe m (.int y) (.int (10 ^ (18 : Int).toNat)) = .ok (.bl q) m := ⟨_, rfl⟩
  refine ⟨y, q, y % 2147483629, h0, by omega, ?_⟩
  have hb : b__law_box (startE 1 [.int x]) m = .rt (.cel m.length) (m ++ [some (bxC y q (y % 2147483629) 0)]) := by
    unfold b__law_box
    exact e_ret (e_lstC (e_cons (e_call1 (e_var rfl) habs) (e_cons (e_bin (e_call1 (e_var rfl) habs) (e_bin e_c e_c hpow) hq) (e_cons (e_bin (e_call1 (e_call1 (e_var rfl) habs) rfl) e_c hmod) (e_cons e_c e_nil)))) (lz (by simp)))
  unfold m__law_box fnM
  have e1 : ([D.int x] : List D).length = 1 := rfl
  rw [if_pos e1, hb]
  rfl
theorem e_andm {env : DL.Env} {m m1 : Mem} {fa fb : FE} {p q : Bool} (ha : fa env m = .ok (.bl p) m1) (hb : fb env m1 = .ok (.bl q) m1) : fAnd fa fb env m = .ok (.bl (p && q)) m1 := by
  cases p
  · exact e_and0 ha
  · exact e_and1 ha hb
theorem three_ix {m : Mem} {r : Nat} (h : r < 3) : ∃ k : Nat, opIx m (.lst [.int 0, .int 3, .int 6]) (eI r) = .ok (eI k) m := by
  rcases (by omega : r = 0 ∨ r = 1 ∨ r = 2) with rfl | rfl | rfl
  · exact ⟨0, ix_lst (at0 _ _)⟩
  · exact ⟨3, ix_lst (at1 _ _ _)⟩
  · exact ⟨6, ix_lst (at2 _ _ _ _)⟩
theorem ix4 {m : Mem} {a b c d : D} : opIx m (.lst [a, b, c, d]) (.int 0) = .ok a m ∧ opIx m (.lst [a, b, c, d]) (.int 1) = .ok b m ∧ opIx m (.lst [a, b, c, d]) (.int 2) = .ok c m ∧ opIx m (.lst [a, b, c, d]) (.int 3) = .ok d m :=
  ⟨ix_lst (at0 _ _), ix_lst (at1 _ _ _), ix_lst (at2 _ _ _ _), ix_lst (at3 _ _ _ _ _)⟩
/-- the sizes -/
theorem d_sizes {j c : Nat} {base m : Mem} {env : DL.Env} {w : Bool} (hb : Ok base) (hj : j < base.length) (hx : Bx j c base m) (hc : c < 1000) (e2 : env[2]? = some (some (.cel j))) (e4 : env[4]? = some (some (.bl w))) :
    ∃ (s0 s1 s2 s3 : Nat) (m' : Mem), s0 ≤ 24 ∧ s1 ≤ 24 ∧ s2 ≤ 60 ∧ s3 ≤ 24 ∧ fIf (fTr (fVar 4)) (fLst (aCons (fC (.int 24)) (aCons (fC (.int 24)) (aCons (fBin opAdd (fC (.int 20)) (fApp m__law_take (aCons (fVar 2) (aCons (fC (.int 41)) aNil)))) (aCons (fC (.int 24)) aNil))))) (fLst (aCons (fApp m__law_take (aCons (fVar 2) (aCons (fC (.int 4)) aNil))) (aCons (fApp m__law_take (aCons (fVar 2) (aCons (fC (.int 5)) aNil))) (aCons (fApp m__law_take (aCons (fVar 2) (aCons (fC (.int 10)) aNil))) (aCons (fApp m__law_take (aCons (fVar 2) (aCons (fC (.int 5)) aNil))) aNil))))) env m = .ok (.lst [eI s0, eI s1, eI s2, eI s3]) m' ∧ Bx j (c + 4) base m' := by
  cases w with
  | true =>
    obtain ⟨r, m1, hr, htk, hx1⟩ := e_take (many := 41) (env := env) (fb := fVar 2) (fe := fC (.int 41)) hb hj hx (by omega) (by omega) (by omega) (e_var e2) rfl
    exact ⟨24, 24, 20 + r, 24, m1, by omega, by omega, by omega, by omega, e_if1 (e_trb (e_var e4)) (e_lst (e_cons e_c (e_cons e_c (e_cons (e_bin e_c htk (add_nat (a := 20))) (e_cons e_c e_nil)))) (lz (by simp))), hx1.le (by omega)⟩
  | false =>
    obtain ⟨r0, m1, hr0, ht0, hx1⟩ := e_take (many := 4) (env := env) (fb := fVar 2) (fe := fC (.int 4)) hb hj hx (by omega) (by omega) (by omega) (e_var e2) rfl
    obtain ⟨r1, m2, hr1, ht1, hx2⟩ := e_take (many := 5) (env := env) (fb := fVar 2) (fe := fC (.int 5)) hb hj hx1 (by omega) (by omega) (by omega) (e_var e2) rfl
    obtain ⟨r2, m3, hr2, ht2, hx3⟩ := e_take (many := 10) (env := env) (fb := fVar 2) (fe := fC (.int 10)) hb hj hx2 (by omega) (by omega) (by omega) (e_var e2) rfl
    obtain ⟨r3, m4, hr3, ht3, hx4⟩ := e_take (many := 5) (env := env) (fb := fVar 2) (fe := fC (.int 5)) hb hj hx3 (by omega) (by omega) (by omega) (e_var e2) rfl
    exact ⟨r0, r1, r2, r3, m4, by omega, by omega, by omega, by omega, e_if0 (e_trb (e_var e4)) (e_lst (e_cons ht0 (e_cons ht1 (e_cons ht2 (e_cons ht3 e_nil)))) (lz (by simp))), hx4.le (by omega)⟩
theorem ok_none {m : Mem} (h : Ok m) : Ok (m ++ [none]) := lowM_app (lowM_mono (by simp) _ h) rfl
theorem d_law {m : Mem} {ns : List Int} {k : Nat} {z2 z3 z4 z5 z6 z7 : Option D} (hm : Ok m) (hk : k < 3) :
    ∃ (w2 w3 w4 w5 w6 w7 : Option D) (m' : Mem), xLaw [some (.fl ns), some (eI k), z2, z3, z4, z5, z6, z7] m = .nx [some (.fl ns), some (eI k), w2, w3, w4, w5, w6, w7] m' ∧ Ok m' := by
  obtain ⟨x, hcell⟩ := p_cell (ns := ns) (k := k) hm (by omega)
  obtain ⟨a, b, c, hc0, hc1, hbox⟩ := p_box (m := m) (x := x)
  have hb : Ok (m ++ [none]) := ok_none hm
  have hj : m.length < (m ++ [none]).length := by simp
  have hx : Bx m.length 0 (m ++ [none]) (m ++ [some (bxC a b c 0)]) := ⟨a, b, c, 0, cell_set.symm, hc0, hc1, by omega, by omega⟩
  obtain ⟨r0, m1, hr0, ht0, hx1⟩ := e_take (many := 2) (env := [some (.fl ns), some (eI k), some (.cel m.length), z3, z4, z5, z6, z7]) (fb := fVar 2) (fe := fC (.int 2)) hb hj hx (by omega) (by omega) (by omega) (e_var rfl) rfl
  obtain ⟨r1, m2, hr1, ht1, hx2⟩ := e_take (many := 8) (env := [some (.fl ns), some (eI k), some (.cel m.length), z3, z4, z5, z6, z7]) (fb := fVar 2) (fe := fC (.int 8)) hb hj hx1 (by omega) (by omega) (by omega) (e_var rfl) rfl
  obtain ⟨p, hp⟩ : ∃ p : Bool, opEq m1 (eI r0) (.int 1) = .ok (.bl p) m1 := ⟨_, eq_ii⟩
  obtain ⟨q1, hq1⟩ : ∃ p : Bool, opEq m2 (eI r1) (.int 0) = .ok (.bl p) m2 := ⟨_, eq_ii⟩
  obtain ⟨q2, hq2⟩ : ∃ p : Bool, opEq m2 (eI k) (.int 0) = .ok (.bl p) m2 := ⟨_, eq_ii⟩
  obtain ⟨s0, s1, s2, s3, m3, h0, h1, h2, h3, hsz, hx3⟩ := d_sizes (w := q1 && q2) (env := [some (.fl ns), some (eI k), some (.cel m.length), some (.bl p), some (.bl (q1 && q2)), z5, z6, z7]) hb hj hx2 (by omega) rfl rfl
  obtain ⟨r2, m4, hr2, ht2, hx4⟩ := e_take (many := 3) (env := [some (.fl ns), some (eI k), some (.cel m.length), some (.bl p), some (.bl (q1 && q2)), some (.lst [eI s0, eI s1, eI s2, eI s3]), z6, z7]) (fb := fVar 2) (fe := fC (.int 3)) hb hj hx3 (by omega) (by omega) (by omega) (e_var rfl) rfl
  obtain ⟨nots, hnots⟩ := three_ix (m := m4) hr2
  obtain ⟨N, m5, hN, hNi, hdr, hx5⟩ := p_drawn (ins := s0) (lat := s1) (gates := s2) (outs := s3) (nots := nots) hb hj hx4 (by omega) h0 h1 h2 h3
  have hm5 : Ok m5 := hx5.ok hb
  have hends := p_ends (b := p) hm5 hN
  obtain ⟨m6, hext, hx6⟩ := p_ext (b := !p) hb hj hx5 (by omega) hN
  obtain ⟨m7, hhurt, hx7⟩ := p_hurt hb hj hx6 (by omega) hN
  obtain ⟨m8, href, hx8⟩ := p_ref (b := p) hb hj hx7 (by omega) hN
  obtain ⟨i0, i1, i2, i3⟩ : opIx m3 (.lst [eI s0, eI s1, eI s2, eI s3]) (.int 0) = .ok (eI s0) m3 ∧ opIx m3 (.lst [eI s0, eI s1, eI s2, eI s3]) (.int 1) = .ok (eI s1) m3 ∧ opIx m3 (.lst [eI s0, eI s1, eI s2, eI s3]) (.int 2) = .ok (eI s2) m3 ∧ opIx m3 (.lst [eI s0, eI s1, eI s2, eI s3]) (.int 3) = .ok (eI s3) m3 := ix4
  refine ⟨some (.cel m.length), some (.bl p), some (.bl (q1 && q2)), some (.lst [eI s0, eI s1, eI s2, eI s3]), some (eNet N), some (eObj N), m8, ?_, hx8.ok hb⟩
  unfold xLaw
  refine e_seq (e_set (e_app (e_cons (e_app (e_cons (e_var rfl) (e_cons (e_var rfl) e_nil)) hcell) e_nil) hbox)) ?_
  refine e_seq (e_par (e_bin ht0 e_c hp) (e_andm (e_bin ht1 e_c hq1) (e_bin (e_var rfl) e_c hq2))) ?_
  refine e_seq (e_set hsz) ?_
  refine e_seq (e_set (e_app (e_cons (e_var rfl) (e_cons (e_bin (e_var rfl) e_c i0) (e_cons (e_bin (e_var rfl) e_c i1) (e_cons (e_bin (e_var rfl) e_c i2) (e_cons (e_bin (e_var rfl) e_c i3) (e_cons (e_bin (e_lst (e_cons e_c (e_cons e_c (e_cons e_c e_nil))) (lz (by simp))) ht2 hnots) e_nil)))))) hdr)) ?_
  refine e_seq (e_set (e_app (e_cons (e_var rfl) e_nil) (p_made hm5 hN))) ?_
  refine e_seq (e_skip (e_tor0 (e_tnot (e_trb (e_app (e_cons (e_var rfl) (e_cons (e_var rfl) (e_cons (e_var rfl) e_nil))) hends))) (e_tnot (e_trb (e_app (e_cons (e_var rfl) (e_cons (e_var rfl) (e_cons (e_var rfl) (e_cons (e_notT (e_trb (e_var rfl))) e_nil)))) hext))))) ?_
  exact e_skip (e_tor0 (e_tnot (e_trb (e_app (e_cons (e_var rfl) (e_cons (e_var rfl) (e_cons (e_var rfl) e_nil))) hhurt))) (e_tnot (e_trb (e_app (e_cons (e_var rfl) (e_cons (e_var rfl) (e_cons (e_var rfl) (e_cons (e_var rfl) e_nil)))) href))))
theorem turns (ns : List Int) : ∃ t : Nat, t ≤ 3 ∧ ∀ (env : DL.Env) (m : Mem), env[0]? = some (some (.fl ns)) → fCall (op2 opMax2) (aCons (fC (.int 2)) (aCons (fCall (op2 opMin2) (aCons (fC (.int 3)) (aCons (fCall (op1 opLen) (aCons (fVar 0) aNil)) aNil))) aNil)) env m = .ok (.int (t : Int)) m := by
  have hmin : ∀ m : Mem, opMin2 m (.int 3) (eI ns.length) = .ok (eI (min 3 ns.length)) m := fun m => by
    show R.ok (D.int (if (ns.length : Int) < 3 then (ns.length : Int) else 3)) m = _
    unfold eI
    congr 2
    split <;> omega
  have hmax : ∀ m : Mem, opMax2 m (.int 2) (eI (min 3 ns.length)) = .ok (eI (max 2 (min 3 ns.length))) m := fun m => by
    show R.ok (D.int (if ((min 3 ns.length : Nat) : Int) > 2 then ((min 3 ns.length : Nat) : Int) else 2)) m = _
    unfold eI
    congr 2
    split <;> omega
  exact ⟨max 2 (min 3 ns.length), by omega, fun env m h => e_call2 e_c (e_call2 e_c (e_call1 (e_var h) fl_len) (hmin m)) (hmax m)⟩
theorem law_plain (ns : List Int) (hl : ns.length ≤ 63) : ∃ m, m_law [] [.fl ns] = .ok (.bl true) m := by
  obtain ⟨t, ht, hturn⟩ := turns ns
  obtain ⟨e', m', hf, ⟨w1, w2, w3, w4, w5, w6, w7, rfl⟩, hm'⟩ := for_rng (k := t) (tg := tName 1) (fb := xLaw) (env := [some (.fl ns), none, none, none, none, none, none, none]) (m := [])
    (fun i env m1 => (∃ w1 w2 w3 w4 w5 w6 w7 : Option D, env = [some (.fl ns), w1, w2, w3, w4, w5, w6, w7]) ∧ Ok m1)
    ⟨⟨none, none, none, none, none, none, none, rfl⟩, rfl⟩ (fun i env m1 hi hI => by
      obtain ⟨⟨w1, w2, w3, w4, w5, w6, w7, rfl⟩, hm⟩ := hI
      obtain ⟨v2, v3, v4, v5, v6, v7, m2, hq, hm2⟩ := d_law (ns := ns) (k := i) (z2 := w2) (z3 := w3) (z4 := w4) (z5 := w5) (z6 := w6) (z7 := w7) hm (by omega)
      exact ⟨_, rfl, _, m2, hq, ⟨_, _, _, _, _, _, _, rfl⟩, hm2⟩)
  refine ⟨[], fn_rt rfl (d := .bl true) (m' := m') ?_ (leave_take (m := []) (by simp) rfl rfl)⟩
  rw [b_law_eq]
  exact e_seq (e_for (e_rng (n := t) (by omega) (hturn _ _ rfl)) hf) (e_ret e_c)
end LW

open PySem PySem.W PySem.Calls PyProof.Rows
theorem PySem.Challenge.cw_rightordark_k10_plain_nets_and_tops_holds : PySem.Challenge.rw_rightordark_k10_plain_nets_and_tops.Holds := by
  w_on; o_law
  refine HandSHeadRun.head_any (r := OpenLaw.row PySem.Challenge.rw_rightordark_k10_plain_nets_and_tops) (q := view (OpenLaw.row PySem.Challenge.rw_rightordark_k10_plain_nets_and_tops).prog [81]) (H := LW.hk) (ob := LW.ob) (M := 20000) (loose := LW.names) (d := HandSHeadRun.topDef (OpenLaw.row PySem.Challenge.rw_rightordark_k10_plain_nets_and_tops).prog 81) (kwd := []) LW.ob_eq
    (by kernel_rfl) (fun s => by kernel_rfl) LW.run (by kernel_rfl) (by kernel_rfl) (by kernel_rfl) (by rfl) (by first | assumption | decide +kernel) (by decide +kernel) ⟨rfl, rfl, rfl, rfl, rfl, by decide +kernel⟩ ?hw ?hc
  case hw => w_witness2
  case hc =>
    refine L2.walk_ofE (l := PySem.Challenge.rw_rightordark_k10_plain_nets_and_tops) (n := 63) (k := 16) (x := "script") (CX := DL.CXw (PySem.Challenge.rw_rightordark_k10_plain_nets_and_tops).prog) rfl (by decide) (by kernel_rfl) ⟨rfl, by decide, by decide⟩ ?F DL.cxw_no
    intro w mg fa h Y G hmg0
    obtain ⟨K, KX, c⟩ := Y
    have hmg : mg ("law" : PySem.Str) = some (.ref fa) := by
      have e : (HandSHeadRun.topDef (OpenLaw.row PySem.Challenge.rw_rightordark_k10_plain_nets_and_tops).prog 81).name = ("law" : PySem.Str) := by kernel_rfl
      rw [← e]
      exact hmg0
    have Z : LW.Zf K mg := ⟨h, KX, G, c⟩
    obtain ⟨fd0, F⟩ := c.d.def_ 60 (d := LW.d60) rfl
    have e0 := hmg.symm.trans Z.f_law
    cases e0
    have b := L2.FunD.bindsA (ps := ["script"]) F fun _ _ _ _ _ _ us hl => match us, hl with | [_], _ => rfl
    exact ⟨K, fd0, DL.spD K (He.ga K) 1 LW.m_law, KX, fun s v => b s [v] rfl, fun H a ns hl hO hS => DL.law_sp (LW.law_plain ns hl) hO hS, fun base _ _ => DL.cxw (LW.ok_law Z F)⟩
