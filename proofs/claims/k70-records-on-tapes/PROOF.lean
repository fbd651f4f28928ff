import PyProof.Rows.All
import Wide.All
import OpenK.AllK
import Wide.FinOn
import HandS.ForMost
import HandS.ForExc
import HandS.TupAny
import HandS.Deep
import HandS.ExcInit
import HandS.ExcField
import HandS.ExcIs
import HandS.IsInst
import HandS.Defaults
import HandS.Head0
import HandS.Head1
import HandS.Head2
import HandS.HeadEnd
import HandS.HeadHook1
import HandS.HeadHook2
import KE.KExcIs
import HandS.Codes
import KE.DataCmp
import PyProof.ReprRoads
import PyProof.Rows.NestShow
import HandS.Iter
import HandS.MapJoin
import KE.SortData
import HandS.RaiseMore
import PySem.Challenge.RW_quiltward_k70_records_on_tapes
set_option Elab.async false
set_option linter.all false
set_option maxRecDepth 100000
namespace Pu
open PySem PySem.Spec PyProof.Rows L2

/-! ### plain data -/
inductive D where
  | non | bl (b : Bool) | int (i : Int) | str (x : Str)
  | tup (xs : List D) | lst (xs : List D) | dct (ks vs : List D)
  | hdl (n : Nat) (d : D)
  | cls (a : Addr)
  | ty (n : String)
  | exc (a dd : Addr) (f : Str) (d : D)
  | scr (ns : List Int)

mutual
def D.beq : D → D → Bool
  | .non, .non => true
  | .bl a, .bl b => a == b
  | .int a, .int b => a == b
  | .str a, .str b => decide (a = b)
  | .tup a, .tup b => D.beqs a b
  | .lst a, .lst b => D.beqs a b
  | .dct a c, .dct b d => D.beqs a b && D.beqs c d
  | .hdl a c, .hdl b d => a == b && D.beq c d
  | .cls a, .cls b => a == b
  | .ty a, .ty b => a == b
  | .scr a, .scr b => a == b
  | .exc a c e x, .exc b d f y => a == b && (c == d && (decide (e = f) && D.beq x y))
  | _, _ => false
def D.beqs : List D → List D → Bool
  | [], [] => true
  | x :: xs, y :: ys => D.beq x y && D.beqs xs ys
  | _, _ => false
end
mutual
theorem D.beq_iff : ∀ a b : D, D.beq a b = true ↔ a = b
  | .non, b => by cases b <;> simp [D.beq]
  | .bl _, b => by cases b <;> simp [D.beq]
  | .int _, b => by cases b <;> simp [D.beq]
  | .str _, b => by cases b <;> simp [D.beq]
  | .tup xs, b => by cases b <;> simp [D.beq, D.beqs_iff xs]
  | .lst xs, b => by cases b <;> simp [D.beq, D.beqs_iff xs]
  | .dct xs ys, b => by cases b <;> simp [D.beq, D.beqs_iff xs, D.beqs_iff ys]
  | .hdl _ d, b => by cases b <;> simp [D.beq, D.beq_iff d]
  | .cls _, b => by cases b <;> simp [D.beq]
  | .ty _, b => by cases b <;> simp [D.beq]
  | .scr _, b => by cases b <;> simp [D.beq]
  | .exc _ _ _ d, b => by cases b <;> simp [D.beq, D.beq_iff d]
theorem D.beqs_iff : ∀ a b : List D, D.beqs a b = true ↔ a = b
  | [], b => by cases b <;> simp [D.beqs]
  | x :: xs, b => by cases b <;> simp [D.beqs, D.beq_iff x, D.beqs_iff xs]
end
instance : DecidableEq D := fun a b => decidable_of_iff _ (D.beq_iff a b)

/-! ### heaps in parts -/
def Dis (A B : Hp) : Prop := ∀ b, A b = none ∨ B b = none
def un (A B : Hp) : Hp := fun b => match A b with
  | some o => some o
  | none => B b
def emp : Hp := fun _ => none
def one (a : Addr) (o : HO) : Hp := fun b => if b = a then some o else none
theorem one_same {a : Addr} {o : HO} : one a o a = some o := if_pos rfl
theorem one_ne {a b : Addr} {o : HO} (h : b ≠ a) : one a o b = none := if_neg h
theorem Dis.symm {A B : Hp} (h : Dis A B) : Dis B A := fun b => (h b).symm
theorem Dis.emp {A : Hp} : Dis A emp := fun _ => .inr rfl
theorem Dis.sub {A B A' : Hp} (h : Dis A B) (s : ∀ b, A b = none → A' b = none) : Dis A' B := fun b => (h b).imp (s b) id
theorem un_l {A B : Hp} : Same A (un A B) := fun b o e => by unfold un; rw [e]
theorem un_r {A B : Hp} (d : Dis A B) : Same B (un A B) := fun b o e => by
  unfold un
  rcases d b with h | h
  · rw [h]; exact e
  · rw [h] at e; cases e
theorem un_cases {A B : Hp} {b : Addr} {o : HO} (e : un A B b = some o) : A b = some o ∨ (A b = none ∧ B b = some o) := by
  unfold un at e
  cases h : A b with
  | some u => rw [h] at e; exact .inl e
  | none => rw [h] at e; exact .inr ⟨rfl, e⟩
theorem un_none {A B : Hp} {b : Addr} (h : un A B b = none) : A b = none ∧ B b = none := by
  unfold un at h
  cases e : A b with
  | some u => rw [e] at h; cases h
  | none => rw [e] at h; exact ⟨rfl, h⟩
theorem none_un {A B : Hp} {b : Addr} (h1 : A b = none) (h2 : B b = none) : un A B b = none := by
  unfold un; rw [h1]; exact h2
theorem un_sub {A B H : Hp} (h1 : Same A H) (h2 : Same B H) : Same (un A B) H := fun b o e => by
  rcases un_cases e with h | ⟨_, h⟩
  · exact h1 b o h
  · exact h2 b o h
theorem Dis.un {A B C : Hp} (h1 : Dis A C) (h2 : Dis B C) : Dis (un A B) C := fun b => by
  rcases h1 b with h | h
  · rcases h2 b with h' | h'
    · exact .inl (none_un h h')
    · exact .inr h'
  · exact .inr h
theorem ne_none_of {A : Hp} {b : Addr} {o : HO} (h : A b = some o) : A b ≠ none := by rw [h]; exact fun z => nomatch z

/-! ### what stands in the part of the heap that never changes any more -/
structure Wd where
  P : Program
  w : World
  K : PySem.W.Frag
  rep : Nat → Hp → Hp → V → D → Prop
  mono : ∀ n G G' F v d, Same G G' → rep n G F v d → rep n G' F v d
abbrev Cx.wd (X : Cx) (rep : Nat → Hp → Hp → V → D → Prop) (mono : ∀ n G G' F v d, Same G G' → rep n G F v d → rep n G' F v d) : Wd := ⟨X.prog, X.w, X.K, rep, mono⟩

mutual
inductive FR (W : Wd) (G : Hp) : V → D → Prop
  | non : FR W G .non .non
  | bl (b : Bool) : FR W G (.bl b) (.bl b)
  | int (i : Int) : FR W G (.int i) (.int i)
  | str (x : Str) : FR W G (.str x) (.str x)
  | cls (a : Addr) : FR W G (.ref a) (.cls a)
  | ty (n : String) : FR W G (.ty n) (.ty n)
  | scr {a : Addr} {ns : List Int} : SqL W.K G a (ns.map V.int) → FR W G (.ref a) (.scr ns)
  | exc {a dd : Addr} {f : Str} {v : V} {d : D} : G dd = some (.xd [(f, v)]) → FR W G v d → FR W G (.ref a) (.exc a dd f d)
  | tup {a : Addr} {vs : List V} {ds : List D} : SqT W.K G a vs → FRs W G vs ds → FR W G (.ref a) (.tup ds)
  | lst {a : Addr} {vs : List V} {ds : List D} : G a = some (.lst vs) → FRs W G vs ds → FR W G (.ref a) (.lst ds)
inductive FRs (W : Wd) (G : Hp) : List V → List D → Prop
  | nil : FRs W G [] []
  | cons {v : V} {vs : List V} {d : D} {ds : List D} : FR W G v d → FRs W G vs ds → FRs W G (v :: vs) (d :: ds)
end
theorem rd_mono {G G' : Hp} {a : Addr} {u : HO} (e : Same G G') (h : Rd G a u) : Rd G' a u := by
  rcases h with h | ⟨o, h⟩
  · exact .inl (e a _ h)
  · exact .inr ⟨o, e a _ h⟩
theorem sqt_mono {K : PySem.W.Frag} {H H' : Hp} {a : Addr} {xs : List V} (e : Same H H') (h : SqT K H a xs) : SqT K H' a xs := by
  rcases h with h | h
  · exact .inl (rd_mono e h)
  · exact .inr h
mutual
theorem FR.mono {W : Wd} {G G' : Hp} (e : Same G G') : ∀ {v : V} {d : D}, FR W G v d → FR W G' v d
  | _, _, .non => .non
  | _, _, .bl b => .bl b
  | _, _, .int i => .int i
  | _, _, .str x => .str x
  | _, _, .cls a => .cls a
  | _, _, .ty a => .ty a
  | _, _, .scr h => .scr (e.seq h)
  | _, _, .exc h t => .exc (e _ _ h) (FR.mono e t)
  | _, _, .tup h t => .tup (sqt_mono e h) (FRs.mono e t)
  | _, _, .lst h t => .lst (e _ _ h) (FRs.mono e t)
theorem FRs.mono {W : Wd} {G G' : Hp} (e : Same G G') : ∀ {vs : List V} {ds : List D}, FRs W G vs ds → FRs W G' vs ds
  | _, _, .nil => .nil
  | _, _, .cons h t => .cons (FR.mono e h) (FRs.mono e t)
end
theorem FRs.length {W : Wd} {G : Hp} : ∀ {vs : List V} {ds : List D}, FRs W G vs ds → vs.length = ds.length
  | _, _, .nil => rfl
  | _, _, .cons _ t => by simp [FRs.length t]
theorem FRs.get {W : Wd} {G : Hp} : ∀ {vs : List V} {ds : List D} {i : Nat} {d : D}, FRs W G vs ds → ds[i]? = some d → ∃ v, vs[i]? = some v ∧ FR W G v d
  | _, _, _, _, .nil, e => by simp at e
  | _, _, 0, _, .cons h _, e => by
    simp at e
    subst e
    exact ⟨_, rfl, h⟩
  | _, _, i + 1, d, .cons _ t, e => by
    obtain ⟨v, h1, h2⟩ := FRs.get (i := i) (d := d) t (by simpa using e)
    exact ⟨v, by simpa using h1, h2⟩
theorem FRs.getV {W : Wd} {G : Hp} : ∀ {vs : List V} {ds : List D} {i : Nat} {v : V}, FRs W G vs ds → vs[i]? = some v → ∃ d, ds[i]? = some d ∧ FR W G v d
  | _, _, _, _, .nil, e => by simp at e
  | _, _, 0, _, .cons h _, e => by
    simp at e
    subst e
    exact ⟨_, rfl, h⟩
  | _, _, i + 1, d, .cons _ t, e => by
    obtain ⟨v, h1, h2⟩ := FRs.getV (i := i) t (by simpa using e)
    exact ⟨v, by simpa using h1, h2⟩
theorem FRs.append {W : Wd} {G : Hp} : ∀ {vs us : List V} {ds es : List D}, FRs W G vs ds → FRs W G us es → FRs W G (vs ++ us) (ds ++ es)
  | _, _, _, _, .nil, h => h
  | _, _, _, _, .cons h t, q => .cons h (FRs.append t q)
theorem FRs.take {W : Wd} {G : Hp} : ∀ {vs : List V} {ds : List D} (n : Nat), FRs W G vs ds → FRs W G (vs.take n) (ds.take n)
  | _, _, 0, _ => .nil
  | _, _, _ + 1, .nil => .nil
  | _, _, n + 1, .cons h t => .cons h (FRs.take n t)
theorem FRs.drop {W : Wd} {G : Hp} : ∀ {vs : List V} {ds : List D} (n : Nat), FRs W G vs ds → FRs W G (vs.drop n) (ds.drop n)
  | _, _, 0, h => h
  | _, _, _ + 1, .nil => .nil
  | _, _, n + 1, .cons h t => FRs.drop n t
theorem FRs.set {W : Wd} {G : Hp} {v : V} {d : D} (h : FR W G v d) : ∀ {vs : List V} {ds : List D} (n : Nat), FRs W G vs ds → FRs W G (vs.set n v) (ds.set n d)
  | _, _, _, .nil => .nil
  | _, _, 0, .cons _ t => .cons h t
  | _, _, n + 1, .cons q t => .cons q (FRs.set h n t)
theorem FRs.eraseIdx {W : Wd} {G : Hp} : ∀ {vs : List V} {ds : List D} (n : Nat), FRs W G vs ds → FRs W G (vs.eraseIdx n) (ds.eraseIdx n)
  | _, _, _, .nil => .nil
  | _, _, 0, .cons _ t => t
  | _, _, n + 1, .cons q t => .cons q (FRs.eraseIdx n t)
theorem FRs.snoc {W : Wd} {G : Hp} {vs : List V} {ds : List D} {v : V} {d : D} (h : FRs W G vs ds) (q : FR W G v d) : FRs W G (vs ++ [v]) (ds ++ [d]) := h.append (.cons q .nil)

/-! ### slots -/
inductive Slot where
  | nil | frz (d : D) | own (d : D) | par (d : D)
abbrev Env := List Slot
/-- an object that nobody else knows -/
inductive OR (W : Wd) (G F : Hp) : V → D → Prop
  | lst {a : Addr} {vs : List V} {ds : List D} : F a = some (.lst vs) → FRs W G vs ds → OR W G F (.ref a) (.lst ds)
  | hdl {n : Nat} {v : V} {d : D} : W.rep n G F v d → OR W G F v (.hdl n d)
theorem OR.mono {W : Wd} {G G' F : Hp} (e : Same G G') : ∀ {v : V} {d : D}, OR W G F v d → OR W G' F v d
  | _, _, .lst h t => .lst h (t.mono e)
  | _, _, .hdl h => .hdl (W.mono _ _ _ _ _ _ e h)
/-- what may be told to all -/
def D.sol : D → Bool
  | .hdl _ _ => false
  | _ => true
theorem OR.freeze {W : Wd} {G F : Hp} {v : V} {d : D} (h : OR W G F v d) (hs : d.sol = true) (dj : Dis G F) : FR W (un G F) v d := by
  cases h with
  | lst h t => exact .lst (un_r dj _ _ h) (t.mono un_l)
  | hdl _ => cases hs

def SlR (W : Wd) (G : Hp) (x0 x : Option (Option V)) (F : Hp) : Slot → Prop
  | .nil => True
  | .frz d => ∃ v, x = some (some v) ∧ FR W G v d
  | .own d => ∃ v, x = some (some v) ∧ OR W G F v d
  | .par d => ∃ v, x = some (some v) ∧ x0 = some (some v) ∧ OR W G F v d
theorem SlR.mono {W : Wd} {G G' : Hp} {x0 x : Option (Option V)} {F : Hp} (e : Same G G') : ∀ {s : Slot}, SlR W G x0 x F s → SlR W G' x0 x F s
  | .nil, h => h
  | .frz _, ⟨v, a, b⟩ => ⟨v, a, b.mono e⟩
  | .own _, ⟨v, a, b⟩ => ⟨v, a, b.mono e⟩
  | .par _, ⟨v, a, c, b⟩ => ⟨v, a, c, b.mono e⟩

/-- σ, H are what env tells: G never changes, φ i is slot i's own part, Z is all that may change -/
structure ER (W : Wd) (Z : Addr → Prop) (σ0 : L2.St) (H G : Hp) (σ : L2.St) (env : Env) (φ : Nat → Hp) : Prop where
  len : σ.length = env.length ∧ σ.length = σ0.length
  sl : ∀ i s, env[i]? = some s → SlR W G (σ0[i]?) (σ[i]?) (φ i) s
  dis : ∀ i j, i ≠ j → Dis (φ i) (φ j)
  dg : ∀ i, Dis G (φ i)
  sub : ∀ i, Same (φ i) H
  gh : Same G H
  zn : ∀ b, H b = none → Z b
  zs : ∀ i b, φ i b ≠ none → Z b
structure Ext (Z : Addr → Prop) (G H G' H' : Hp) : Prop where
  g : Same G G'
  gz : ∀ b o, G' b = some o → G b = some o ∨ Z b
  hz : ∀ b o, H b = some o → ¬ Z b → H' b = some o
theorem Ext.refl {Z : Addr → Prop} {G H : Hp} : Ext Z G H G H := ⟨Same.refl _, fun _ _ e => .inl e, fun _ _ e _ => e⟩
theorem Ext.trans {Z : Addr → Prop} {G H G1 H1 G2 H2 : Hp} (a : Ext Z G H G1 H1) (b : Ext Z G1 H1 G2 H2) : Ext Z G H G2 H2 where
  g := a.g.trans b.g
  gz := fun x o e => (b.gz x o e).elim (a.gz x o) .inr
  hz := fun x o e n => b.hz x o (a.hz x o e n) n
theorem Ext.weak {Z Z' : Addr → Prop} {G H G' H' : Hp} (h : ∀ b, Z b → Z' b) (a : Ext Z G H G' H') : Ext Z' G H G' H' :=
  ⟨a.g, fun b o e => (a.gz b o e).imp id (h b), fun b o e n => a.hz b o e fun z => n (h b z)⟩
/-- an exception: its class, its attributes -/
abbrev XP := Addr → List (Str × D) → Prop
def XOk (W : Wd) (Z : Addr → Prop) (G H : Hp) (E : XK) (Xc : XP) : Prop :=
  ∀ C f d v dx H' G', Ext Z G H G' H' → Same G' H' → Z dx → H' dx = some (.xd [(f, v)]) → FR W G' v d → Xc C [(f, d)] → E (.ref C) (some dx) H'
end Pu

set_option Elab.async false
set_option linter.all false
set_option maxRecDepth 100000
namespace Pu
open PySem PySem.Spec L2

abbrev PTE := Env → (D → Env → Prop) → Prop
abbrev PTT := Env → (Bool → Env → Prop) → Prop
abbrev PTA := Env → (List D → Env → Prop) → Prop
abbrev PQE := Env → (D → Prop) → Prop
abbrev PQT := Env → (Bool → Prop) → Prop
abbrev PQA := Env → (List D → Prop) → Prop
abbrev PTG := D → Env → (Env → Prop) → Prop
abbrev PTGs := List D → Env → (Env → Prop) → Prop
abbrev PTO := Env → (Slot → Env → Prop) → Prop
structure PEnds where
  nx : Env → Prop
  rt : Slot → Env → Prop
  bk : Env → Prop := fun _ => False
  ct : Env → Prop := fun _ => False
abbrev PTS := PEnds → Env → Prop

/-! ### only new things -/
structure Grow (G H G' H' : Hp) : Prop where
  g : Same G G'
  h : Same H H'
  n : ∀ b o, G' b = some o → G b = some o ∨ H b = none
  gh : Same G' H'
theorem Grow.refl {G H : Hp} (e : Same G H) : Grow G H G H := ⟨Same.refl _, Same.refl _, fun _ _ h => .inl h, e⟩
theorem Grow.trans {G H G1 H1 G2 H2 : Hp} (a : Grow G H G1 H1) (b : Grow G1 H1 G2 H2) : Grow G H G2 H2 :=
  ⟨a.g.trans b.g, a.h.trans b.h, fun x o e => by
    rcases b.n x o e with h | h
    · exact a.n x o h
    · exact .inr (a.h.free h), b.gh⟩
theorem same_upd {H : Hp} {p : Addr} {o : HO} (h : H p = none) : Same H (upd H p o) := fun b x e => by
  rw [upd_ne (ne_of_none e h)]
  exact e
theorem Grow.new {G H : Hp} {p : Addr} {o : HO} (e : Same G H) (h : H p = none) : Grow G H (upd G p o) (upd H p o) := by
  have hg : G p = none := e.free h
  refine ⟨same_upd hg, same_upd h, fun b u q => ?_, fun b u q => ?_⟩
  · by_cases hb : b = p
    · subst hb; exact .inr h
    · rw [upd_ne hb] at q; exact .inl q
  · by_cases hb : b = p
    · subst hb
      rw [upd_same] at q ⊢
      exact q
    · rw [upd_ne hb] at q ⊢
      exact e b u q

/-! ### a look at all that is known, nothing changes -/
def SlV (W : Wd) (Γ : Hp) (x : Option (Option V)) : Slot → Prop
  | .nil => True
  | .frz d => ∃ v, x = some (some v) ∧ FR W Γ v d
  | .own d => d.sol = true → ∃ v, x = some (some v) ∧ FR W Γ v d
  | .par d => d.sol = true → ∃ v, x = some (some v) ∧ FR W Γ v d
theorem SlV.mono {W : Wd} {G G' : Hp} {x : Option (Option V)} (e : Same G G') : ∀ {s : Slot}, SlV W G x s → SlV W G' x s
  | .nil, h => h
  | .frz _, ⟨v, a, b⟩ => ⟨v, a, b.mono e⟩
  | .own _, h => fun hs => let ⟨v, a, b⟩ := h hs; ⟨v, a, b.mono e⟩
  | .par _, h => fun hs => let ⟨v, a, b⟩ := h hs; ⟨v, a, b.mono e⟩
structure Vw (W : Wd) (Γ H : Hp) (σ : L2.St) (env : Env) : Prop where
  len : σ.length = env.length
  gh : Same Γ H
  sl : ∀ (i : Nat) (s : Slot), env[i]? = some s → SlV W Γ (σ[i]?) s
theorem Vw.grow {W : Wd} {Γ H Γ' H' : Hp} {σ : L2.St} {env : Env} (v : Vw W Γ H σ env) (g : Grow Γ H Γ' H') : Vw W Γ' H' σ env :=
  ⟨v.len, g.gh, fun i s e => (v.sl i s e).mono g.g⟩
/-- exceptions, as a look sees them -/
def XV (W : Wd) (Γ H : Hp) (E : XK) (Xc : XP) : Prop :=
  ∀ C f d v dx Γ' H', Grow Γ H Γ' H' → H dx = none → H' dx = some (.xd [(f, v)]) → FR W Γ' v d → Xc C [(f, d)] → E (.ref C) (some dx) H'
theorem XV.grow {W : Wd} {Γ H Γ' H' : Hp} {E : XK} {Xc : XP} (x : XV W Γ H E Xc) (g : Grow Γ H Γ' H') : XV W Γ' H' E Xc :=
  fun C f d v dx Γ2 H2 g2 h0 h1 h3 h4 => x C f d v dx Γ2 H2 (g.trans g2) (g.h.free h0) h1 h3 h4

def PurQ (W : Wd) (E : XK) (Xc : XP) (te : TE) (pq : PQE) : Prop :=
  ∀ Γ H σ env (Q : VK) (Q' : D → Prop), Vw W Γ H σ env → XV W Γ H E Xc → (∀ v d Γ' H', Grow Γ H Γ' H' → FR W Γ' v d → Q' d → Q v H') → pq env Q' → te σ H Q
def PurQT (W : Wd) (E : XK) (Xc : XP) (tt : TT) (pq : PQT) : Prop :=
  ∀ Γ H σ env (Q : Bool → Hp → Prop) (Q' : Bool → Prop), Vw W Γ H σ env → XV W Γ H E Xc → (∀ b Γ' H', Grow Γ H Γ' H' → Q' b → Q b H') → pq env Q' → tt σ H Q
def PurQA (W : Wd) (E : XK) (Xc : XP) (ta : TA) (pq : PQA) : Prop :=
  ∀ Γ H σ env (Q : List V → Hp → Prop) (Q' : List D → Prop), Vw W Γ H σ env → XV W Γ H E Xc → (∀ vs ds Γ' H', Grow Γ H Γ' H' → FRs W Γ' vs ds → Q' ds → Q vs H') → pq env Q' → ta σ H Q
/-- by values -/
def PurR2 (W : Wd) (r : R2) (p : D → D → (D → Prop) → Prop) : Prop :=
  ∀ G H x y dx dy (Q : VK) (Q' : D → Prop), Same G H → FR W G x dx → FR W G y dy → (∀ v d G' H', Grow G H G' H' → FR W G' v d → Q' d → Q v H') → p dx dy Q' → r x y H Q
def PurR1 (W : Wd) (r : V → Hp → VK → Prop) (p : D → (D → Prop) → Prop) : Prop :=
  ∀ G H x dx (Q : VK) (Q' : D → Prop), Same G H → FR W G x dx → (∀ v d G' H', Grow G H G' H' → FR W G' v d → Q' d → Q v H') → p dx Q' → r x H Q
def PurC (W : Wd) (r : List V → Hp → VK → Prop) (p : List D → (D → Prop) → Prop) : Prop :=
  ∀ G H xs ds (Q : VK) (Q' : D → Prop), Same G H → FRs W G xs ds → (∀ v d G' H', Grow G H G' H' → FR W G' v d → Q' d → Q v H') → p ds Q' → r xs H Q
def PurM (W : Wd) (T : String) (r : V → List V → Hp → VK → Prop) (p : D → List D → (D → Prop) → Prop) : Prop :=
  (∀ G H x dx Q', Same G H → FR W G x dx → ∀ ds, p dx ds Q' → tyV W.K T x H) ∧
  ∀ G H x xs dx ds (Q : VK) (Q' : D → Prop), Same G H → FR W G x dx → FRs W G xs ds → (∀ v d G' H', Grow G H G' H' → FR W G' v d → Q' d → Q v H') → p dx ds Q' → r x xs H Q

section
variable {W : Wd} {E : XK} {Xc : XP} {ta tb tc te : TE} {pa pb pc : PQE} {tt tu : TT} {pt pu : PQT}
/-! ### looks -/
/-- what a slot shows to a look -/
def lkL : Option Slot → Option D
  | some (.frz d) => some d
  | some (.own d) => if d.sol = true then some d else none
  | some (.par d) => if d.sol = true then some d else none
  | some .nil => none
  | none => none
def qVar (i : Nat) : PQE := fun env Q => ∃ d, lkL (env[i]?) = some d ∧ Q d
theorem purq_var {i : Nat} : PurQ W E Xc (tVar i) (qVar i) := by
  intro Γ H σ env Q Q' v x k ⟨d0, hl, h⟩
  unfold lkL at hl
  split at hl
  · rename_i d e
    cases hl
    obtain ⟨u, e1, f⟩ := v.sl i _ e
    exact ⟨u, e1, k u d0 Γ H (Grow.refl v.gh) f h⟩
  · rename_i d e
    split at hl
    · rename_i hs
      cases hl
      obtain ⟨u, e1, f⟩ := v.sl i _ e hs
      exact ⟨u, e1, k u d0 Γ H (Grow.refl v.gh) f h⟩
    · cases hl
  · rename_i d e
    split at hl
    · rename_i hs
      cases hl
      obtain ⟨u, e1, f⟩ := v.sl i _ e hs
      exact ⟨u, e1, k u d0 Γ H (Grow.refl v.gh) f h⟩
    · cases hl
  · cases hl
  · cases hl
def qC (d : D) : PQE := fun _ Q => Q d
theorem purq_C {v : V} {d : D} (h : ∀ G, FR W G v d) : PurQ W E Xc (tC v) (qC d) := fun Γ H σ env Q Q' vw x k q => k v d Γ H (Grow.refl vw.gh) (h _) q
theorem purq_int {i : Int} : PurQ W E Xc (tC (.int i)) (qC (.int i)) := purq_C fun _ => .int i
theorem purq_str {i : Str} : PurQ W E Xc (tC (.str i)) (qC (.str i)) := purq_C fun _ => .str i
theorem purq_bl {i : Bool} : PurQ W E Xc (tC (.bl i)) (qC (.bl i)) := purq_C fun _ => .bl i
theorem purq_non : PurQ W E Xc (tC .non) (qC .non) := purq_C fun _ => .non
theorem purq_ty {a : String} : PurQ W E Xc (tC (.ty a)) (qC (.ty a)) := purq_C fun _ => .ty a
theorem purq_cls {a : Addr} : PurQ W E Xc (tC (.ref a)) (qC (.cls a)) := purq_C fun _ => .cls a
def qOp (p : D → D → (D → Prop) → Prop) (pa pb : PQE) : PQE := fun env Q => pa env fun x => pb env fun y => p x y Q
theorem purq_op {r : R2} {p : D → D → (D → Prop) → Prop} (hr : PurR2 W r p) (ha : PurQ W E Xc ta pa) (hb : PurQ W E Xc tb pb) : PurQ W E Xc (tOp r ta tb) (qOp p pa pb) := by
  intro Γ H σ env Q Q' v x k h
  refine ha Γ H σ env _ _ v x (fun v1 d1 G1 H1 g1 f1 q1 => ?_) h
  refine hb G1 H1 σ env _ _ (v.grow g1) (x.grow g1) (fun v2 d2 G2 H2 g2 f2 q2 => ?_) q1
  exact hr G2 H2 v1 v2 d1 d2 _ _ g2.gh (f1.mono g2.g) f2 (fun v3 d3 G3 H3 g3 f3 q3 => k v3 d3 G3 H3 ((g1.trans g2).trans g3) f3 q3) q2
def qUn (p : D → (D → Prop) → Prop) (pa : PQE) : PQE := fun env Q => pa env fun x => p x Q
theorem purq_un {r : V → Hp → VK → Prop} {p : D → (D → Prop) → Prop} (hr : PurR1 W r p) (ha : PurQ W E Xc ta pa) : PurQ W E Xc (tUn r ta) (qUn p pa) := by
  intro Γ H σ env Q Q' v x k h
  refine ha Γ H σ env _ _ v x (fun v1 d1 G1 H1 g1 f1 q1 => ?_) h
  exact hr G1 H1 v1 d1 _ _ g1.gh f1 (fun v3 d3 G3 H3 g3 f3 q3 => k v3 d3 G3 H3 (g1.trans g3) f3 q3) q1
/-- bools -/
def asB (Q : Bool → Prop) : D → Prop
  | .bl b => Q b
  | _ => False
theorem asB_of {W : Wd} {G : Hp} {v : V} {d : D} {Q : Bool → Prop} (f : FR W G v d) (h : asB Q d) : ∃ c, v = .bl c ∧ d = .bl c ∧ Q c := by
  cases f <;> first | exact ⟨_, rfl, rfl, h⟩ | exact h.elim
def qB (pa : PQE) : PQT := fun env Q => pa env (asB Q)
theorem purqt_B (ha : PurQ W E Xc ta pa) : PurQT W E Xc (tB ta) (qB pa) := by
  intro Γ H σ env Q Q' v x k h
  refine ha Γ H σ env _ _ v x (fun v1 d1 G1 H1 g1 f1 q1 => ?_) h
  obtain ⟨c, e1, e2, q⟩ := asB_of f1 q1
  exact ⟨c, e1, k c G1 H1 g1 q⟩
theorem purqt_test (ha : PurQ W E Xc ta pa) : PurQT W E Xc (tTest ta) (qB pa) := purqt_B ha
def qAnd (p u : PQT) : PQT := fun env Q => p env fun c => if c = true then u env Q else Q false
theorem purqt_and (h1 : PurQT W E Xc tt pt) (h2 : PurQT W E Xc tu pu) : PurQT W E Xc (tAnd tt tu) (qAnd pt pu) := by
  intro Γ H σ env Q Q' v x k h
  refine h1 Γ H σ env _ _ v x (fun b G1 H1 g1 q1 => ?_) h
  cases b with
  | true =>
    rw [if_pos rfl] at q1 ⊢
    exact h2 G1 H1 σ env _ _ (v.grow g1) (x.grow g1) (fun b G2 H2 g2 q2 => k b G2 H2 (g1.trans g2) q2) q1
  | false =>
    rw [if_neg Bool.false_ne_true] at q1 ⊢
    exact k false G1 H1 g1 q1
def qOr (p u : PQT) : PQT := fun env Q => p env fun c => if c = true then Q true else u env Q
theorem purqt_or (h1 : PurQT W E Xc tt pt) (h2 : PurQT W E Xc tu pu) : PurQT W E Xc (tOr tt tu) (qOr pt pu) := by
  intro Γ H σ env Q Q' v x k h
  refine h1 Γ H σ env _ _ v x (fun b G1 H1 g1 q1 => ?_) h
  cases b with
  | false =>
    rw [if_neg Bool.false_ne_true] at q1 ⊢
    exact h2 G1 H1 σ env _ _ (v.grow g1) (x.grow g1) (fun b G2 H2 g2 q2 => k b G2 H2 (g1.trans g2) q2) q1
  | true =>
    rw [if_pos rfl] at q1 ⊢
    exact k true G1 H1 g1 q1
def qNot (p : PQT) : PQT := fun env Q => p env fun c => Q (!c)
theorem purqt_not (h1 : PurQT W E Xc tt pt) : PurQT W E Xc (tNot tt) (qNot pt) := by
  intro Γ H σ env Q Q' v x k h
  exact h1 Γ H σ env _ _ v x (fun b G1 H1 g1 q1 => k _ G1 H1 g1 q1) h
def qAndV (p u : PQE) : PQE := fun env Q => p env (asB fun c => if c = true then u env Q else Q (.bl false))
theorem purq_andV (h1 : PurQ W E Xc ta pa) (h2 : PurQ W E Xc tb pb) : PurQ W E Xc (tAndV ta tb) (qAndV pa pb) := by
  intro Γ H σ env Q Q' v x k h
  refine h1 Γ H σ env _ _ v x (fun v1 d1 G1 H1 g1 f1 q1 => ?_) h
  obtain ⟨c, e1, e2, q1⟩ := asB_of f1 q1
  refine ⟨c, e1, ?_⟩
  cases c with
  | true =>
    rw [if_pos rfl] at q1 ⊢
    exact h2 G1 H1 σ env _ _ (v.grow g1) (x.grow g1) (fun v d G2 H2 g2 f2 q2 => k v d G2 H2 (g1.trans g2) f2 q2) q1
  | false =>
    rw [if_neg Bool.false_ne_true] at q1 ⊢
    exact k _ _ G1 H1 g1 (.bl false) q1
def qOrV (p u : PQE) : PQE := fun env Q => p env (asB fun c => if c = true then Q (.bl true) else u env Q)
theorem purq_orV (h1 : PurQ W E Xc ta pa) (h2 : PurQ W E Xc tb pb) : PurQ W E Xc (tOrV ta tb) (qOrV pa pb) := by
  intro Γ H σ env Q Q' v x k h
  refine h1 Γ H σ env _ _ v x (fun v1 d1 G1 H1 g1 f1 q1 => ?_) h
  obtain ⟨c, e1, e2, q1⟩ := asB_of f1 q1
  refine ⟨c, e1, ?_⟩
  cases c with
  | false =>
    rw [if_neg Bool.false_ne_true] at q1 ⊢
    exact h2 G1 H1 σ env _ _ (v.grow g1) (x.grow g1) (fun v d G2 H2 g2 f2 q2 => k v d G2 H2 (g1.trans g2) f2 q2) q1
  | true =>
    rw [if_pos rfl] at q1 ⊢
    exact k _ _ G1 H1 g1 (.bl true) q1
def qNotV (p : PQE) : PQE := fun env Q => p env (asB fun c => Q (.bl (!c)))
theorem purq_notV (h1 : PurQ W E Xc ta pa) : PurQ W E Xc (tNotV ta) (qNotV pa) := by
  intro Γ H σ env Q Q' v x k h
  refine h1 Γ H σ env _ _ v x (fun v1 d1 G1 H1 g1 f1 q1 => ?_) h
  obtain ⟨c, e1, e2, q1⟩ := asB_of f1 q1
  exact ⟨c, e1, k _ _ G1 H1 g1 (.bl _) q1⟩
def qIf (t : PQT) (pa pb : PQE) : PQE := fun env Q => t env fun c => if c = true then pa env Q else pb env Q
theorem purq_if (h : PurQT W E Xc tt pt) (ha : PurQ W E Xc ta pa) (hb : PurQ W E Xc tb pb) : PurQ W E Xc (tIf tt ta tb) (qIf pt pa pb) := by
  intro Γ H σ env Q Q' v x k h0
  refine h Γ H σ env _ _ v x (fun b G1 H1 g1 q1 => ?_) h0
  cases b with
  | true =>
    rw [if_pos rfl] at q1 ⊢
    exact ha G1 H1 σ env _ _ (v.grow g1) (x.grow g1) (fun v d G2 H2 g2 f2 q2 => k v d G2 H2 (g1.trans g2) f2 q2) q1
  | false =>
    rw [if_neg Bool.false_ne_true] at q1 ⊢
    exact hb G1 H1 σ env _ _ (v.grow g1) (x.grow g1) (fun v d G2 H2 g2 f2 q2 => k v d G2 H2 (g1.trans g2) f2 q2) q1
/-- arguments -/
def qNil : PQA := fun _ Q => Q []
def qCons (p : PQE) (r : PQA) : PQA := fun env Q => p env fun d => r env fun ds => Q (d :: ds)
theorem purqa_nil : PurQA W E Xc tNil qNil := fun Γ H σ env Q Q' v x k h => k [] [] Γ H (Grow.refl v.gh) .nil h
theorem purqa_cons {t : TA} {p : PQA} (h1 : PurQ W E Xc ta pa) (h2 : PurQA W E Xc t p) : PurQA W E Xc (tCons ta t) (qCons pa p) := by
  intro Γ H σ env Q Q' v x k h
  refine h1 Γ H σ env _ _ v x (fun v1 d1 G1 H1 g1 f1 q1 => ?_) h
  refine h2 G1 H1 σ env _ _ (v.grow g1) (x.grow g1) (fun vs ds G2 H2 g2 f2 q2 => ?_) q1
  exact k _ _ G2 H2 (g1.trans g2) (.cons (f1.mono g2.g) f2) q2
def qCB (p : List D → (D → Prop) → Prop) (a : PQA) : PQE := fun env Q => a env fun ds => p ds Q
theorem purq_CB {r : List V → Hp → VK → Prop} {p : List D → (D → Prop) → Prop} {t : TA} {a : PQA} (hr : PurC W r p) (ha : PurQA W E Xc t a) : PurQ W E Xc (tCB r t) (qCB p a) := by
  intro Γ H σ env Q Q' v x k h
  refine ha Γ H σ env _ _ v x (fun vs ds G1 H1 g1 f1 q1 => ?_) h
  exact hr G1 H1 vs ds _ _ g1.gh f1 (fun v d G2 H2 g2 f2 q2 => k v d G2 H2 (g1.trans g2) f2 q2) q1
/-- methods of built-in types that change nothing -/
def qBM (p : D → List D → (D → Prop) → Prop) (pa : PQE) (a : PQA) : PQE := fun env Q => pa env fun d => a env fun ds => p d ds Q
def qTup (a : PQA) : PQE := fun env Q => a env fun ds => ds.length ≤ sizeLine ∧ Q (.tup ds)
def qLst (a : PQA) : PQE := fun env Q => a env fun ds => ds.length ≤ sizeLine ∧ Q (.lst ds)
theorem purq_tup {t : TA} {a : PQA} (ha : PurQA W E Xc t a) : PurQ W E Xc (tTup t) (qTup a) := by
  intro Γ H σ env Q Q' v x k h
  refine ha Γ H σ env _ _ v x (fun vs ds G1 H1 g1 f1 q1 => ⟨by rw [f1.length]; exact q1.1, fun p hp => ?_⟩) h
  have g2 := Grow.new (o := .tup vs) g1.gh hp
  exact k _ _ _ _ (g1.trans g2) (.tup (.inl (.inl upd_same)) (f1.mono g2.g)) q1.2
theorem purq_lst {t : TA} {a : PQA} (ha : PurQA W E Xc t a) : PurQ W E Xc (tLst t) (qLst a) := by
  intro Γ H σ env Q Q' v x k h
  refine ha Γ H σ env _ _ v x (fun vs ds G1 H1 g1 f1 q1 => ⟨by rw [f1.length]; exact q1.1, fun p hp => ?_⟩) h
  have g2 := Grow.new (o := .lst vs) g1.gh hp
  exact k _ _ _ _ (g1.trans g2) (.lst upd_same (f1.mono g2.g)) q1.2
end
end Pu

set_option Elab.async false
set_option linter.all false
set_option maxRecDepth 100000
namespace Pu
open PySem PySem.Spec L2

/-! ### data that == tells apart as they are -/
mutual
def D.py : D → PyData
  | .non => .none
  | .bl b => .bool b
  | .int i => .int i
  | .str x => .str x
  | .tup xs => .tuple (D.pys xs)
  | .lst xs => .list (D.pys xs)
  | .dct _ _ => .none
  | .hdl _ _ => .none
  | .cls _ => .none
  | .ty _ => .none
  | .exc _ _ _ _ => .none
  | .scr _ => .none
def D.pys : List D → List PyData
  | [] => []
  | d :: ds => D.py d :: D.pys ds
end
def okStr (x : Str) : Bool := x.cps.all (· < 0x110000)
mutual
/-- plain: to the depth n, signs in bounds -/
def D.pl : Nat → D → Bool
  | _, .non => true
  | _, .bl _ => true
  | _, .int _ => true
  | _, .str x => okStr x
  | n + 1, .tup xs => D.pls n xs
  | n + 1, .lst xs => D.pls n xs
  | _, _ => false
def D.pls : Nat → List D → Bool
  | _, [] => true
  | n, d :: ds => D.pl n d && D.pls n ds
end
mutual
/-- no True beside 1 -/
def D.nm : D → D → Bool
  | .bl _, .int _ => false
  | .int _, .bl _ => false
  | .tup xs, .tup ys => D.nms xs ys
  | .lst xs, .lst ys => D.nms xs ys
  | _, _ => true
def D.nms : List D → List D → Bool
  | x :: xs, y :: ys => D.nm x y && D.nms xs ys
  | _, _ => true
end
mutual
theorem D.lay : ∀ (n : Nat) (d : D), D.pl n d = true → PyData.canLay0 d.py = true ∧ PyData.depth d.py ≤ n
  | _, .non, _ => by simp [D.py, PyData.canLay0, PyData.depth]
  | _, .bl _, _ => by simp [D.py, PyData.canLay0, PyData.depth]
  | _, .int _, _ => by simp [D.py, PyData.canLay0, PyData.depth]
  | _, .str x, h => by
    have h' : okStr x = true := by simpa [D.pl] using h
    simp only [D.py, PyData.canLay0, PyData.depth]
    exact ⟨h', Nat.zero_le _⟩
  | 0, .tup xs, h => by simp [D.pl] at h
  | 0, .lst xs, h => by simp [D.pl] at h
  | n + 1, .tup xs, h => by
    have := D.lays n xs (by simpa [D.pl] using h)
    simp only [D.py, PyData.canLay0, PyData.depth]
    exact ⟨this.1, by omega⟩
  | n + 1, .lst xs, h => by
    have := D.lays n xs (by simpa [D.pl] using h)
    simp only [D.py, PyData.canLay0, PyData.depth]
    exact ⟨this.1, by omega⟩
  | 0, .dct _ _, h => by simp [D.pl] at h
  | 0, .hdl _ _, h => by simp [D.pl] at h
  | 0, .cls _, h => by simp [D.pl] at h
  | 0, .ty _, h => by simp [D.pl] at h
  | 0, .exc _ _ _ _, h => by simp [D.pl] at h
  | 0, .scr _, h => by simp [D.pl] at h
  | _ + 1, .scr _, h => by simp [D.pl] at h
  | _ + 1, .ty _, h => by simp [D.pl] at h
  | _ + 1, .exc _ _ _ _, h => by simp [D.pl] at h
  | _ + 1, .dct _ _, h => by simp [D.pl] at h
  | _ + 1, .hdl _ _, h => by simp [D.pl] at h
  | _ + 1, .cls _, h => by simp [D.pl] at h
theorem D.lays : ∀ (n : Nat) (ds : List D), D.pls n ds = true → PyData.canLayAll0 (D.pys ds) = true ∧ PyData.depthAll (D.pys ds) ≤ n
  | _, [], _ => by simp [D.pys, PyData.canLayAll0, PyData.depthAll]
  | n, d :: ds, h => by
    have h' : D.pl n d = true ∧ D.pls n ds = true := by simpa [D.pls] using h
    obtain ⟨a1, a2⟩ := D.lay n d h'.1
    obtain ⟨b1, b2⟩ := D.lays n ds h'.2
    simp only [D.pys, PyData.canLayAll0, PyData.depthAll, a1, b1]
    exact ⟨rfl, by omega⟩
end
mutual
theorem D.dp {W : Wd} {G : Hp} : ∀ {n : Nat} {v : V} {d : D}, FR W G v d → D.pl n d = true → Dp W.K G v d.py
  | _, _, _, .non, _ => by simp only [D.py]; exact .non
  | _, _, _, .bl b, _ => by simp only [D.py]; exact .bl b
  | _, _, _, .int b, _ => by simp only [D.py]; exact .int b
  | _, _, _, .str b, _ => by simp only [D.py]; exact .str b
  | 0, _, _, .cls b, h => by simp [D.pl] at h
  | 0, _, _, .ty b, h => by simp [D.pl] at h
  | 0, _, _, .exc _ _, h => by simp [D.pl] at h
  | 0, _, _, .scr _, h => by simp [D.pl] at h
  | _ + 1, _, _, .scr _, h => by simp [D.pl] at h
  | _ + 1, _, _, .ty b, h => by simp [D.pl] at h
  | _ + 1, _, _, .exc _ _, h => by simp [D.pl] at h
  | _ + 1, _, _, .cls b, h => by simp [D.pl] at h
  | 0, _, _, .tup h t, q => by simp [D.pl] at q
  | 0, _, _, .lst h t, q => by simp [D.pl] at q
  | n + 1, _, _, .tup h t, q => by
    simp only [D.py]
    exact .tup h (D.dps t (by simpa [D.pl] using q))
  | n + 1, _, _, .lst h t, q => by
    simp only [D.py]
    exact .lst (SqL.of h) (D.dps t (by simpa [D.pl] using q))
theorem D.dps {W : Wd} {G : Hp} : ∀ {n : Nat} {vs : List V} {ds : List D}, FRs W G vs ds → D.pls n ds = true → DpAll W.K G vs (D.pys ds)
  | _, _, _, .nil, _ => by simp only [D.pys]; exact .nil
  | n, _, _, @FRs.cons _ _ _ _ d ds h t, q => by
    have q' : D.pl n d = true ∧ D.pls n ds = true := by simpa [D.pls] using q
    simp only [D.pys]
    exact .cons (D.dp h q'.1) (D.dps t q'.2)
end
mutual
theorem D.eqv_dec : ∀ (n m : Nat) (d e : D), D.pl n d = true → D.pl m e = true → D.nm d e = true → PyData.eqv d.py e.py = decide (d = e)
  | n, m, .non, e, _, h, _ => by cases e <;> first | (simp [D.py, PyData.eqv]; done) | (cases m <;> simp [D.pl] at h)
  | n, m, .bl a, e, _, h, q => by cases e <;> first | (simp [D.py, PyData.eqv]; done) | (cases m <;> simp [D.pl] at h; done) | (simp [D.nm] at q; done) | (simp [D.py, PyData.eqv, Bool.beq_eq_decide_eq]; done)
  | n, m, .int a, e, _, h, q => by cases e <;> first | (simp [D.py, PyData.eqv]; done) | (cases m <;> simp [D.pl] at h; done) | (simp [D.nm] at q; done) | (simp [D.py, PyData.eqv, Bool.beq_eq_decide_eq]; done)
  | n, m, .str a, e, _, h, q => by cases e <;> first | (simp [D.py, PyData.eqv]; done) | (cases m <;> simp [D.pl] at h; done) | (simp [D.py, PyData.eqv, Bool.beq_eq_decide_eq]; done)
  | 0, m, .tup xs, e, h, _, _ => by simp [D.pl] at h
  | 0, m, .lst xs, e, h, _, _ => by simp [D.pl] at h
  | n + 1, 0, .tup xs, e, h, h2, q => by
    cases e <;> first | (simp [D.py, PyData.eqv]; done) | (simp [D.pl] at h2; done)
  | n + 1, 0, .lst xs, e, h, h2, q => by
    cases e <;> first | (simp [D.py, PyData.eqv]; done) | (simp [D.pl] at h2; done)
  | n + 1, m + 1, .tup xs, e, h, h2, q => by
    cases e <;> first | (simp [D.py, PyData.eqv]; done) | (simp [D.pl] at h2; done) | skip
    rename_i ys
    have := D.eqvs_dec n m xs ys (by simpa [D.pl] using h) (by simpa [D.pl] using h2) (by simpa [D.nm] using q)
    simp [D.py, PyData.eqv, this]
  | n + 1, m + 1, .lst xs, e, h, h2, q => by
    cases e <;> first | (simp [D.py, PyData.eqv]; done) | (simp [D.pl] at h2; done) | skip
    rename_i ys
    have := D.eqvs_dec n m xs ys (by simpa [D.pl] using h) (by simpa [D.pl] using h2) (by simpa [D.nm] using q)
    simp [D.py, PyData.eqv, this]
  | 0, _, .dct _ _, _, h, _, _ => by simp [D.pl] at h
  | 0, _, .hdl _ _, _, h, _, _ => by simp [D.pl] at h
  | 0, _, .cls _, _, h, _, _ => by simp [D.pl] at h
  | 0, _, .ty _, _, h, _, _ => by simp [D.pl] at h
  | 0, _, .exc _ _ _ _, _, h, _, _ => by simp [D.pl] at h
  | 0, _, .scr _, _, h, _, _ => by simp [D.pl] at h
  | _ + 1, _, .scr _, _, h, _, _ => by simp [D.pl] at h
  | _ + 1, _, .ty _, _, h, _, _ => by simp [D.pl] at h
  | _ + 1, _, .exc _ _ _ _, _, h, _, _ => by simp [D.pl] at h
  | _ + 1, _, .dct _ _, _, h, _, _ => by simp [D.pl] at h
  | _ + 1, _, .hdl _ _, _, h, _, _ => by simp [D.pl] at h
  | _ + 1, _, .cls _, _, h, _, _ => by simp [D.pl] at h
theorem D.eqvs_dec : ∀ (n m : Nat) (d e : List D), D.pls n d = true → D.pls m e = true → D.nms d e = true → PyData.eqvAll (D.pys d) (D.pys e) = decide (d = e)
  | _, _, [], e, _, _, _ => by cases e <;> simp [D.pys, PyData.eqvAll]
  | _, _, d :: ds, [], _, _, _ => by simp [D.pys, PyData.eqvAll]
  | n, m, d :: ds, e :: es, h1, h2, h3 => by
    have h1' : D.pl n d = true ∧ D.pls n ds = true := by simpa [D.pls] using h1
    have h2' : D.pl m e = true ∧ D.pls m es = true := by simpa [D.pls] using h2
    have h3' : D.nm d e = true ∧ D.nms ds es = true := by simpa [D.nms] using h3
    simp only [D.pys, PyData.eqvAll, D.eqv_dec n m d e h1'.1 h2'.1 h3'.1, D.eqvs_dec n m ds es h1'.2 h2'.2 h3'.2]
    rw [Bool.eq_iff_iff]
    simp
end
theorem dp_same {K : PySem.W.Frag} {H H' : Hp} (e : Same H H') {v : V} {d : PyData} (h : Dp K H v d) : Dp K H' v d :=
  Dp.rec (K := K) (H := H) (motive_1 := fun v d _ => Dp K H' v d) (motive_2 := fun vs ds _ => DpAll K H' vs ds) .non .bl .int .str
    (fun h _ i => .lst (e.seq h) i) (fun h _ i => .tup (sqt_mono e h) i) .nil (fun _ _ a b => .cons a b) h

/-! ### the operators, by data -/
def scalD : D → D → Bool
  | .non, .non => true | .non, .int _ => true | .int _, .non => true | .non, .bl _ => true | .bl _, .non => true | .non, .str _ => true | .str _, .non => true
  | .int _, .int _ => true | .bl _, .bl _ => true | .str _, .str _ => true
  | .int _, .str _ => true | .str _, .int _ => true | .bl _, .str _ => true | .str _, .bl _ => true
  | _, _ => false
def eqOk (x y : D) : Bool := scalD x y || (D.pl 60 x && D.pl 60 y && D.nm x y)
def pEq (x y : D) (Q : D → Prop) : Prop := eqOk x y = true ∧ Q (.bl (decide (x = y)))
def pNe (x y : D) (Q : D → Prop) : Prop := eqOk x y = true ∧ Q (.bl (!decide (x = y)))
section
variable {W : Wd}
theorem scal_of {G : Hp} {x y : V} {d e : D} (h1 : FR W G x d) (h2 : FR W G y e) (h : scalD d e = true) : scal x y = true ∧ decide (x = y) = decide (d = e) := by
  cases h1 <;> cases h2 <;> first | (cases h; done) | simp [scal]
theorem plain_of {G H : Hp} (e : Same G H) {x y : V} {dx dy : D} (h1 : FR W G x dx) (h2 : FR W G y dy) (h : (D.pl 60 dx && D.pl 60 dy && D.nm dx dy) = true) :
    Dp W.K H x dx.py ∧ Dp W.K H y dy.py ∧ SeqAt.shaped dx.py = true ∧ SeqAt.shaped dy.py = true ∧ PyData.eqv dx.py dy.py = decide (dx = dy) := by
  have h' : (D.pl 60 dx = true ∧ D.pl 60 dy = true) ∧ D.nm dx dy = true := by simpa using h
  obtain ⟨a1, a2⟩ := D.lay 60 dx h'.1.1
  obtain ⟨b1, b2⟩ := D.lay 60 dy h'.1.2
  refine ⟨dp_same e (D.dp h1 h'.1.1), dp_same e (D.dp h2 h'.1.2), ?_, ?_, D.eqv_dec 60 60 dx dy h'.1.1 h'.1.2 h'.2⟩
  · unfold SeqAt.shaped
    rw [a1, decide_eq_true (by omega)]; rfl
  · unfold SeqAt.shaped
    rw [b1, decide_eq_true (by omega)]; rfl
theorem pr_eq : PurR2 W (fun x y H Q => rEq x y H Q ∨ rEqD W.K x y H Q) pEq := by
  intro G H x y dx dy Q Q' e f1 f2 k h
  obtain ⟨h1, h2⟩ := h
  by_cases hs : scalD dx dy = true
  · obtain ⟨a, b⟩ := scal_of f1 f2 hs
    exact .inl ⟨a, by rw [b]; exact k _ _ G H (Grow.refl e) (.bl _) h2⟩
  · have h3 : (D.pl 60 dx && D.pl 60 dy && D.nm dx dy) = true := by
      unfold eqOk at h1
      rw [Bool.or_eq_true] at h1
      exact h1.resolve_left hs
    obtain ⟨a, b, c, d, q⟩ := plain_of e f1 f2 h3
    exact .inr ⟨_, _, a, b, c, d, by rw [q]; exact k _ _ G H (Grow.refl e) (.bl _) h2⟩
theorem pr_ne : PurR2 W (fun x y H Q => rNe x y H Q ∨ rNeD W.K x y H Q) pNe := by
  intro G H x y dx dy Q Q' e f1 f2 k h
  obtain ⟨h1, h2⟩ := h
  by_cases hs : scalD dx dy = true
  · obtain ⟨a, b⟩ := scal_of f1 f2 hs
    exact .inl ⟨a, by rw [b]; exact k _ _ G H (Grow.refl e) (.bl _) h2⟩
  · have h3 : (D.pl 60 dx && D.pl 60 dy && D.nm dx dy) = true := by
      unfold eqOk at h1
      rw [Bool.or_eq_true] at h1
      exact h1.resolve_left hs
    obtain ⟨a, b, c, d, q⟩ := plain_of e f1 f2 h3
    exact .inr ⟨_, _, a, b, c, d, by rw [q]; exact k _ _ G H (Grow.refl e) (.bl _) h2⟩
theorem op_eqA {X : Cx} (hu : X.A.units + 64 < cLine) : OpR X (compareOp .Eq) (fun x y H Q => rEq x y H Q ∨ rEqD X.K x y H Q) := op_eq.or (op_eqD hu)
theorem op_neA {X : Cx} (hu : X.A.units + 64 < cLine) : OpR X (compareOp .NotEq) (fun x y H Q => rNe x y H Q ∨ rNeD X.K x y H Q) := op_ne.or (op_neD hu)

/-- two ints -/
def pI2 (C : Int → Int → Prop) (g : Int → Int → D) : D → D → (D → Prop) → Prop
  | .int i, .int j, Q => C i j ∧ Q (g i j)
  | _, _, _ => False
def pI0 (g : Int → Int → D) : D → D → (D → Prop) → Prop
  | .int i, .int j, Q => Q (g i j)
  | _, _, _ => False
theorem pI2_of {C : Int → Int → Prop} {g : Int → Int → D} {G : Hp} {x y : V} {dx dy : D} {Q : D → Prop} (f1 : FR W G x dx) (f2 : FR W G y dy) (h : pI2 C g dx dy Q) : ∃ i j, x = .int i ∧ y = .int j ∧ C i j ∧ Q (g i j) := by
  cases f1 <;> first | (exact h.elim) | skip
  cases f2 <;> first | (exact h.elim) | exact ⟨_, _, rfl, rfl, h.1, h.2⟩
theorem pI0_of {g : Int → Int → D} {G : Hp} {x y : V} {dx dy : D} {Q : D → Prop} (f1 : FR W G x dx) (f2 : FR W G y dy) (h : pI0 g dx dy Q) : ∃ i j, x = .int i ∧ y = .int j ∧ Q (g i j) := by
  cases f1 <;> first | (exact h.elim) | skip
  cases f2 <;> first | (exact h.elim) | exact ⟨_, _, rfl, rfl, h⟩
theorem pr_I {C : Int → Int → Prop} {g : Int → Int → Int} : PurR2 W (rI C fun i j => .int (g i j)) (pI2 C fun i j => .int (g i j)) := by
  intro G H x y dx dy Q Q' e f1 f2 k h
  obtain ⟨i, j, e1, e2, c, q⟩ := pI2_of f1 f2 h
  exact ⟨i, j, e1, e2, c, k _ _ G H (Grow.refl e) (.int _) q⟩
theorem pr_I0 {g : Int → Int → Int} : PurR2 W (rI0 fun i j => .int (g i j)) (pI0 fun i j => .int (g i j)) := by
  intro G H x y dx dy Q Q' e f1 f2 k h
  obtain ⟨i, j, e1, e2, q⟩ := pI0_of f1 f2 h
  exact ⟨i, j, e1, e2, k _ _ G H (Grow.refl e) (.int _) q⟩
theorem pr_B0 {g : Int → Int → Bool} : PurR2 W (rI0 fun i j => .bl (g i j)) (pI0 fun i j => .bl (g i j)) := by
  intro G H x y dx dy Q Q' e f1 f2 k h
  obtain ⟨i, j, e1, e2, q⟩ := pI0_of f1 f2 h
  exact ⟨i, j, e1, e2, k _ _ G H (Grow.refl e) (.bl _) q⟩
def pU (g : Int → Int) : D → (D → Prop) → Prop
  | .int i, Q => Q (.int (g i))
  | _, _ => False
theorem pr_U {g : Int → Int} : PurR1 W (rU fun i => .int (g i)) (pU g) := by
  intro G H x dx Q Q' e f1 k h
  cases f1 <;> first | (exact h.elim) | exact ⟨_, rfl, k _ _ G H (Grow.refl e) (.int _) h⟩
/-- + of any kind -/
def pAdd : D → D → (D → Prop) → Prop
  | .int i, .int j, Q => Q (.int (i + j))
  | .str a, .str b, Q => a.length + b.length ≤ sizeLine ∧ Q (.str (a ++ b))
  | .lst a, .lst b, Q => a.length + b.length ≤ sizeLine ∧ Q (.lst (a ++ b))
  | .tup a, .tup b, Q => a.length + b.length ≤ sizeLine ∧ Q (.tup (a ++ b))
  | _, _, _ => False
def isNone : D → Bool
  | .non => true
  | _ => false
def pIsN (x y : D) (Q : D → Prop) : Prop := y = .non ∧ Q (.bl (isNone x))
def pNotN (x y : D) (Q : D → Prop) : Prop := y = .non ∧ Q (.bl (!isNone x))
theorem isNone_of {G : Hp} {x : V} {d : D} (f : FR W G x d) : decide (x = .non) = isNone d := by cases f <;> simp [isNone]
theorem frnon {G : Hp} {y : V} (f : FR W G y .non) : y = .non := by cases f; rfl
theorem pr_isN : PurR2 W (fun x y H Q => y = .non ∧ Q (.bl (decide (x = .non))) H) pIsN := by
  intro G H x y dx dy Q Q' e f1 f2 k h
  obtain ⟨rfl, q⟩ := h
  exact ⟨frnon f2, by rw [isNone_of f1]; exact k _ _ G H (Grow.refl e) (.bl _) q⟩
theorem pr_notN : PurR2 W (fun x y H Q => y = .non ∧ Q (.bl (!decide (x = .non))) H) pNotN := by
  intro G H x y dx dy Q Q' e f1 f2 k h
  obtain ⟨rfl, q⟩ := h
  exact ⟨frnon f2, by rw [isNone_of f1]; exact k _ _ G H (Grow.refl e) (.bl _) q⟩
/-- a[i] -/
def pIx : D → D → (D → Prop) → Prop
  | .lst xs, .int i, Q => match atI xs i with
    | some d => Q d
    | none => False
  | .tup xs, .int i, Q => match atI xs i with
    | some d => Q d
    | none => False
  | .str z, .int i, Q => z.length ≤ sizeLine ∧ match atI z.cps.toList i with
    | some c => Q (.str ⟨#[c]⟩)
    | none => False
  | _, _, _ => False
theorem atI_frs {G : Hp} {vs : List V} {ds : List D} {i : Int} {d : D} (f : FRs W G vs ds) (h : atI ds i = some d) : ∃ v, atI vs i = some v ∧ FR W G v d := by
  unfold atI at h ⊢
  rw [f.length]
  cases e : ixN ds.length i with
  | none => rw [e] at h; cases h
  | some j =>
    rw [e] at h
    exact f.get h
theorem pr_ix : PurR2 W (rIx W.K) pIx := by
  intro G H x y dx dy Q Q' e f1 f2 k h
  cases f1 with
  | lst hs t =>
    cases f2 <;> first | (exact h.elim) | skip
    simp only [pIx] at h
    split at h
    · rename_i d hd
      obtain ⟨v, hv, fv⟩ := atI_frs t hd
      exact .inl ⟨_, _, _, v, rfl, rfl, SqL.of (e _ _ hs), hv, k v d G H (Grow.refl e) fv h⟩
    · exact h.elim
  | tup hs t =>
    cases f2 <;> first | (exact h.elim) | skip
    simp only [pIx] at h
    split at h
    · rename_i d hd
      obtain ⟨v, hv, fv⟩ := atI_frs t hd
      exact .inr (.inl ⟨_, _, _, v, rfl, rfl, sqt_mono e hs, hv, k v d G H (Grow.refl e) fv h⟩)
    · exact h.elim
  | str z =>
    cases f2 <;> first | (exact h.elim) | skip
    simp only [pIx] at h
    obtain ⟨hz, h⟩ := h
    split at h
    · rename_i c hc
      exact .inr (.inr ⟨_, _, c, rfl, rfl, hz, hc, k _ _ G H (Grow.refl e) (.str _) h⟩)
    · exact h.elim
  | _ => exact h.elim
/-- by one argument -/
def p1 (p : D → (D → Prop) → Prop) : List D → (D → Prop) → Prop
  | [d], Q => p d Q
  | _, _ => False
def p2 (p : D → D → (D → Prop) → Prop) : List D → (D → Prop) → Prop
  | [d, e], Q => p d e Q
  | _, _ => False
theorem p1_of {p : D → (D → Prop) → Prop} {ds : List D} {Q : D → Prop} (h : p1 p ds Q) : ∃ d, ds = [d] ∧ p d Q := by
  cases ds with
  | nil => exact h.elim
  | cons d r => cases r with
    | nil => exact ⟨d, rfl, h⟩
    | cons _ _ => exact h.elim
theorem p2_of {p : D → D → (D → Prop) → Prop} {ds : List D} {Q : D → Prop} (h : p2 p ds Q) : ∃ d e, ds = [d, e] ∧ p d e Q := by
  cases ds with
  | nil => exact h.elim
  | cons d r => cases r with
    | nil => exact h.elim
    | cons e r => cases r with
      | nil => exact ⟨d, e, rfl, h⟩
      | cons _ _ => exact h.elim
theorem frs1 {G : Hp} {xs : List V} {d : D} (f : FRs W G xs [d]) : ∃ v, xs = [v] ∧ FR W G v d := by
  cases f with
  | cons h t => cases t; exact ⟨_, rfl, h⟩
theorem frs2 {G : Hp} {xs : List V} {d e : D} (f : FRs W G xs [d, e]) : ∃ v u, xs = [v, u] ∧ FR W G v d ∧ FR W G u e := by
  cases f with
  | cons h t =>
    obtain ⟨u, rfl, h2⟩ := frs1 t
    exact ⟨_, _, rfl, h, h2⟩
theorem pc_1 {r : List V → Hp → VK → Prop} {p : D → (D → Prop) → Prop} (h : PurR1 W (fun x => r [x]) p) : PurC W r (p1 p) := by
  intro G H xs ds Q Q' e f k q
  obtain ⟨d, rfl, q⟩ := p1_of q
  obtain ⟨v, rfl, f1⟩ := frs1 f
  exact h G H v d Q Q' e f1 k q
theorem pc_2 {r : List V → Hp → VK → Prop} {p : D → D → (D → Prop) → Prop} (h : PurR2 W (fun x y => r [x, y]) p) : PurC W r (p2 p) := by
  intro G H xs ds Q Q' e f k q
  obtain ⟨d, d2, rfl, q⟩ := p2_of q
  obtain ⟨v, u, rfl, f1, f2⟩ := frs2 f
  exact h G H v u d d2 Q Q' e f1 f2 k q
/-- len -/
def pLen : D → (D → Prop) → Prop
  | .lst xs, Q => Q (.int xs.length)
  | .tup xs, Q => Q (.int xs.length)
  | .str z, Q => z.length ≤ sizeLine ∧ Q (.int z.length)
  | _, _ => False
theorem pc_len : PurC W (fun xs H Q => ∃ x n, xs = [x] ∧ LenV W.K x H n ∧ Q (.int n) H) (p1 pLen) := pc_1 <| by
  intro G H x d Q Q' e f k h
  cases f with
  | lst hs t => exact ⟨_, _, rfl, .inl ⟨_, SqL.of (e _ _ hs), rfl⟩, k _ _ G H (Grow.refl e) (.int _) (by rw [t.length]; exact h)⟩
  | tup hs t => exact ⟨_, _, rfl, .inr ⟨_, sqt_mono e hs, rfl⟩, k _ _ G H (Grow.refl e) (.int _) (by rw [t.length]; exact h)⟩
  | str z => exact ⟨_, _, rfl, ⟨h.1, rfl⟩, k _ _ G H (Grow.refl e) (.int _) h.2⟩
  | _ => exact h.elim
/-- int(..), abs(..) -/
def pInt1 : D → (D → Prop) → Prop
  | .int i, Q => Q (.int i)
  | _, _ => False
theorem pc_int1 : PurC W (fun xs H Q => (∃ i, xs = [.int i] ∧ Q (.int i) H) ∨ ∃ k, xs = [.bl k] ∧ Q (.int (if k then 1 else 0)) H) (p1 pInt1) := pc_1 <| by
  intro G H x d Q Q' e f k h
  cases f <;> first | (exact h.elim) | exact .inl ⟨_, rfl, k _ _ G H (Grow.refl e) (.int _) h⟩
def pAbs : D → (D → Prop) → Prop
  | .int i, Q => Q (.int (if i < 0 then -i else i))
  | _, _ => False
theorem pc_abs : PurC W (fun xs H Q => ∃ i, xs = [.int i] ∧ Q (.int (if i < 0 then -i else i)) H) (p1 pAbs) := pc_1 <| by
  intro G H x d Q Q' e f k h
  cases f <;> first | (exact h.elim) | exact ⟨_, rfl, k _ _ G H (Grow.refl e) (.int _) h⟩
end
end Pu

set_option Elab.async false
set_option linter.all false
set_option maxRecDepth 100000
namespace Pu
open PySem PySem.Spec L2

/-! ### from the state to a look -/
open Classical in
noncomputable def allF (φ : Nat → Hp) : Hp := fun b => if h : ∃ i, φ i b ≠ none then φ h.choose b else none
theorem allF_same {φ : Nat → Hp} (dis : ∀ i j, i ≠ j → Dis (φ i) (φ j)) (i : Nat) : Same (φ i) (allF φ) := fun b o e => by
  have h : ∃ i, φ i b ≠ none := ⟨i, ne_none_of e⟩
  unfold allF
  rw [dif_pos h]
  by_cases hi : i = h.choose
  · rw [← hi]; exact e
  · rcases dis i _ hi b with z | z
    · rw [z] at e; cases e
    · exact absurd z h.choose_spec
theorem allF_some {φ : Nat → Hp} {b : Addr} {o : HO} (e : allF φ b = some o) : ∃ i, φ i b = some o := by
  unfold allF at e
  by_cases h : ∃ i, φ i b ≠ none
  · rw [dif_pos h] at e
    exact ⟨_, e⟩
  · rw [dif_neg h] at e
    cases e
section
variable {W : Wd} {Z : Addr → Prop} {σ0 : L2.St} {H G H' G' : Hp} {σ : L2.St} {env : Env} {φ : Nat → Hp}
theorem ER.dAll (e : ER W Z σ0 H G σ env φ) : Dis G (allF φ) := fun b => by
  cases h : allF φ b with
  | none => exact .inr rfl
  | some o =>
    obtain ⟨i, hi⟩ := allF_some h
    rcases e.dg i b with z | z
    · exact .inl z
    · rw [z] at hi; cases hi
theorem ER.vw (e : ER W Z σ0 H G σ env φ) : Vw W (un G (allF φ)) H σ env := by
  refine ⟨e.len.1, un_sub e.gh fun b o h => ?_, fun i s h => ?_⟩
  · obtain ⟨i, hi⟩ := allF_some h
    exact e.sub i b o hi
  · have hs := e.sl i s h
    have hF : Same (φ i) (un G (allF φ)) := (allF_same e.dis i).trans (un_r e.dAll)
    have key : ∀ {v : V} {d : D}, OR W G (φ i) v d → d.sol = true → FR W (un G (allF φ)) v d := fun {v d} ho hd => by
      cases ho with
      | lst h t => exact .lst (hF _ _ h) (t.mono un_l)
      | hdl _ => cases hd
    cases s with
    | nil => exact trivial
    | frz d => obtain ⟨v, a, b⟩ := hs; exact ⟨v, a, b.mono un_l⟩
    | own d => obtain ⟨v, a, b⟩ := hs; exact fun hd => ⟨v, a, key b hd⟩
    | par d => obtain ⟨v, a, c, b⟩ := hs; exact fun hd => ⟨v, a, key b hd⟩
theorem ER.growExt (e : ER W Z σ0 H G σ env φ) (g : Grow (un G (allF φ)) H G' H') : Ext Z G H G' H' := by
  refine ⟨un_l.trans g.g, fun b o h => ?_, fun b o h _ => g.h b o h⟩
  rcases g.n b o h with h | h
  · rcases un_cases h with h | ⟨_, h⟩
    · exact .inl h
    · obtain ⟨i, hi⟩ := allF_some h
      exact .inr (e.zs i b (ne_none_of hi))
  · exact .inr (e.zn b h)
theorem ER.growH (e : ER W Z σ0 H G σ env φ) (h : Same H H') : ER W Z σ0 H' G σ env φ :=
  ⟨e.len, e.sl, e.dis, e.dg, fun i => (e.sub i).trans h, e.gh.trans h, fun b n => e.zn b (h.free n), e.zs⟩
theorem Ext.growH (h : Same H H') : Ext Z G H G H' := ⟨Same.refl _, fun _ _ e => .inl e, fun b o e _ => h b o e⟩
theorem XOk.view {E : XK} {Xc : XP} (e : ER W Z σ0 H G σ env φ) (x : XOk W Z G H E Xc) : XV W (un G (allF φ)) H E Xc :=
  fun C f d v dx Γ' H' g h0 h1 h3 h4 => x C f d v dx H' Γ' (e.growExt g) g.gh (e.zn dx h0) h1 h3 h4
theorem XOk.ext {E : XK} {Xc : XP} (x : XOk W Z G H E Xc) (t : Ext Z G H G' H') : XOk W Z G' H' E Xc :=
  fun C f d v dx H2 G2 t2 s h0 h1 h3 h4 => x C f d v dx H2 G2 (t.trans t2) s h0 h1 h3 h4
end

/-! ### with effects -/
def VKOk (W : Wd) (Z : Addr → Prop) (σ0 : L2.St) (G H : Hp) (σ : L2.St) (Q : VK) (Q' : D → Env → Prop) : Prop :=
  ∀ v d H' G' env' φ', Ext Z G H G' H' → ER W Z σ0 H' G' σ env' φ' → FR W G' v d → Q' d env' → Q v H'
def PurE (W : Wd) (E : XK) (Xc : XP) (te : TE) (pe : PTE) : Prop :=
  ∀ Z σ0 H G σ env φ Q Q', ER W Z σ0 H G σ env φ → XOk W Z G H E Xc → VKOk W Z σ0 G H σ Q Q' → pe env Q' → te σ H Q
def BKOk (W : Wd) (Z : Addr → Prop) (σ0 : L2.St) (G H : Hp) (σ : L2.St) (Q : Bool → Hp → Prop) (Q' : Bool → Env → Prop) : Prop :=
  ∀ b H' G' env' φ', Ext Z G H G' H' → ER W Z σ0 H' G' σ env' φ' → Q' b env' → Q b H'
def PurT (W : Wd) (E : XK) (Xc : XP) (tt : TT) (pt : PTT) : Prop :=
  ∀ Z σ0 H G σ env φ Q Q', ER W Z σ0 H G σ env φ → XOk W Z G H E Xc → BKOk W Z σ0 G H σ Q Q' → pt env Q' → tt σ H Q
def AKOk (W : Wd) (Z : Addr → Prop) (σ0 : L2.St) (G H : Hp) (σ : L2.St) (Q : List V → Hp → Prop) (Q' : List D → Env → Prop) : Prop :=
  ∀ vs ds H' G' env' φ', Ext Z G H G' H' → ER W Z σ0 H' G' σ env' φ' → FRs W G' vs ds → Q' ds env' → Q vs H'
def PurA (W : Wd) (E : XK) (Xc : XP) (ta : TA) (pa : PTA) : Prop :=
  ∀ Z σ0 H G σ env φ Q Q', ER W Z σ0 H G σ env φ → XOk W Z G H E Xc → AKOk W Z σ0 G H σ Q Q' → pa env Q' → ta σ H Q
/-- a value of its own, or a known one -/
def RR (W : Wd) (Z : Addr → Prop) (H G : Hp) (φ : Nat → Hp) (v : V) (F : Hp) : Slot → Prop
  | .frz d => FR W G v d
  | .own d => OR W G F v d ∧ Dis G F ∧ (∀ i, Dis (φ i) F) ∧ Same F H ∧ ∀ b, F b ≠ none → Z b
  | _ => False
def OKOk (W : Wd) (Z : Addr → Prop) (σ0 : L2.St) (G H : Hp) (σ : L2.St) (Q : VK) (Q' : Slot → Env → Prop) : Prop :=
  ∀ v s F H' G' env' φ', Ext Z G H G' H' → ER W Z σ0 H' G' σ env' φ' → RR W Z H' G' φ' v F s → Q' s env' → Q v H'
def PurO (W : Wd) (E : XK) (Xc : XP) (te : TE) (po : PTO) : Prop :=
  ∀ Z σ0 H G σ env φ Q Q', ER W Z σ0 H G σ env φ → XOk W Z G H E Xc → OKOk W Z σ0 G H σ Q Q' → po env Q' → te σ H Q
structure EndsOk (W : Wd) (Z : Addr → Prop) (σ0 : L2.St) (G H : Hp) (D : Ends) (D' : PEnds) : Prop where
  nx : ∀ σ' H' G' env' φ', Ext Z G H G' H' → ER W Z σ0 H' G' σ' env' φ' → D'.nx env' → D.nx σ' H'
  rt : ∀ v s F σ' H' G' env' φ', Ext Z G H G' H' → ER W Z σ0 H' G' σ' env' φ' → RR W Z H' G' φ' v F s → D'.rt s env' → D.rt v H'
  bk : ∀ σ' H' G' env' φ', Ext Z G H G' H' → ER W Z σ0 H' G' σ' env' φ' → D'.bk env' → D.bk σ' H'
  ct : ∀ σ' H' G' env' φ', Ext Z G H G' H' → ER W Z σ0 H' G' σ' env' φ' → D'.ct env' → D.ct σ' H'
def PurS (W : Wd) (E : XK) (Xc : XP) (ts : TS) (ps : PTS) : Prop :=
  ∀ Z σ0 H G σ env φ D D', ER W Z σ0 H G σ env φ → XOk W Z G H E Xc → EndsOk W Z σ0 G H D D' → ps D' env → ts D σ H
/-- a target -/
def PurG (W : Wd) (g : TG) (p : PTG) : Prop :=
  ∀ Z σ0 H G σ env φ v d (Q : L2.St → Hp → Prop) (Q' : Env → Prop), ER W Z σ0 H G σ env φ → FR W G v d → (∀ σ' env' φ', ER W Z σ0 H G σ' env' φ' → Q' env' → Q σ' H) → p d env Q' → g v σ H Q

section
variable {W : Wd} {E : XK} {Xc : XP} {ta tb tc te : TE} {pa pb pc pe : PTE} {tt tu : TT} {pt pu : PTT} {Z : Addr → Prop} {σ0 : L2.St} {H G H' G' : Hp} {σ : L2.St} {env : Env} {φ : Nat → Hp}
theorem VKOk.ext {Q : VK} {Q' : D → Env → Prop} (k : VKOk W Z σ0 G H σ Q Q') (t : Ext Z G H G' H') : VKOk W Z σ0 G' H' σ Q Q' := fun v d H2 G2 e2 p2 t2 r f q => k v d H2 G2 e2 p2 (t.trans t2) r f q
theorem EndsOk.ext {D : Ends} {D' : PEnds} (k : EndsOk W Z σ0 G H D D') (t : Ext Z G H G' H') : EndsOk W Z σ0 G' H' D D' :=
  ⟨fun a b c d e f => k.nx a b c d e (t.trans f), fun a b c d e f g h i => k.rt a b c d e f g h (t.trans i), fun a b c d e f => k.bk a b c d e (t.trans f), fun a b c d e f => k.ct a b c d e (t.trans f)⟩

/-! ### from looks -/
def flat : D → Bool
  | .non => true
  | .bl _ => true
  | .int _ => true
  | .str _ => true
  | .cls _ => true
  | .ty _ => true
  | _ => false
theorem FR.flat {v : V} {d : D} (f : FR W G v d) (h : flat d = true) : FR W G' v d := by
  cases f <;> first | (cases h; done) | constructor
def eQ (pq : PQE) : PTE := fun env Q => pq env fun d => flat d = true ∧ Q d env
theorem pure_q {pq : PQE} (h : PurQ W E Xc te pq) : PurE W E Xc te (eQ pq) := by
  intro Z σ0 H G σ env φ Q Q' e x k q
  refine h _ H σ env _ _ e.vw (x.view e) (fun v d Γ' H' g f q => ?_) q
  exact k v d H' G env φ (.growH g.h) (e.growH g.h) (f.flat q.1) q.2
def tQ (pq : PQT) : PTT := fun env Q => pq env fun b => Q b env
theorem purt_q {pq : PQT} (h : PurQT W E Xc tt pq) : PurT W E Xc tt (tQ pq) := by
  intro Z σ0 H G σ env φ Q Q' e x k q
  refine h _ H σ env _ _ e.vw (x.view e) (fun b Γ' H' g q => ?_) q
  exact k b H' G env φ (.growH g.h) (e.growH g.h) q

/-! ### names -/
theorem ER.setSlot {i : Nat} {s : Slot} {x : Option V} {F : Hp} (e : ER W Z σ0 H G σ env φ) (h : SlR W G (σ0[i]?) ((σ.set i x)[i]?) F s)
    (h1 : Dis G F) (h2 : ∀ j, j ≠ i → Dis (φ j) F) (h3 : Same F H) (h4 : ∀ b, F b ≠ none → Z b) : ER W Z σ0 H G (σ.set i x) (env.set i s) (fun j => if j = i then F else φ j) where
  len := ⟨by simp [e.len.1], by simp [e.len.2]⟩
  sl := fun j t hj => by
    by_cases hji : j = i
    · subst hji
      have ht : t = s := by
        rw [List.getElem?_set_self' ] at hj
        cases hq : env[j]? with
        | none => rw [hq] at hj; cases hj
        | some u => rw [hq] at hj; exact (Option.some.inj hj).symm
      subst ht
      simpa using h
    · rw [List.getElem?_set_ne (Ne.symm hji)] at hj ⊢
      simp only [if_neg hji]
      exact e.sl j t hj
  dis := fun j k hjk => by
    by_cases hj : j = i
    · by_cases hk : k = i
      · exact absurd (hj.trans hk.symm) hjk
      · simp only [if_pos hj, if_neg hk]
        exact (h2 k hk).symm
    · by_cases hk : k = i
      · simp only [if_neg hj, if_pos hk]
        exact h2 j hj
      · simp only [if_neg hj, if_neg hk]
        exact e.dis j k hjk
  dg := fun j => by
    by_cases hj : j = i
    · simp only [if_pos hj]; exact h1
    · simp only [if_neg hj]; exact e.dg j
  sub := fun j => by
    by_cases hj : j = i
    · simp only [if_pos hj]; exact h3
    · simp only [if_neg hj]; exact e.sub j
  gh := e.gh
  zn := e.zn
  zs := fun j b hb => by
    by_cases hj : j = i
    · simp only [if_pos hj] at hb; exact h4 b hb
    · simp only [if_neg hj] at hb; exact e.zs j b hb
/-- a slot's own thing is told to all -/
theorem ER.freeze {i : Nat} {d : D} (e : ER W Z σ0 H G σ env φ) (h : env[i]? = some (.own d)) (hs : d.sol = true) :
    ∃ v, σ[i]? = some (some v) ∧ FR W (un G (φ i)) v d ∧ Ext Z G H (un G (φ i)) H ∧ ER W Z σ0 H (un G (φ i)) σ (env.set i (.frz d)) (fun j => if j = i then emp else φ j) := by
  obtain ⟨v, a, b⟩ := e.sl i _ h
  have f := b.freeze hs (e.dg i)
  refine ⟨v, a, f, ⟨un_l, fun x o q => ?_, fun _ _ q _ => q⟩, ?_⟩
  · rcases un_cases q with q | ⟨_, q⟩
    · exact .inl q
    · exact .inr (e.zs i x (ne_none_of q))
  · refine ⟨⟨by simp [e.len.1], e.len.2⟩, fun j t hj => ?_, fun j k hjk => ?_, fun j => ?_, fun j => ?_, un_sub e.gh (e.sub i), e.zn, fun j x hx => ?_⟩
    · by_cases hji : j = i
      · subst hji
        have ht : t = .frz d := by
          rw [List.getElem?_set_self' , h] at hj
          exact (Option.some.inj hj).symm
        subst ht
        exact ⟨v, a, f⟩
      · rw [List.getElem?_set_ne (Ne.symm hji)] at hj
        simp only [if_neg hji]
        exact (e.sl j t hj).mono un_l
    · by_cases hj : j = i
      · simp only [if_pos hj]; exact Dis.emp.symm
      · by_cases hk : k = i
        · simp only [if_neg hj, if_pos hk]; exact Dis.emp
        · simp only [if_neg hj, if_neg hk]; exact e.dis j k hjk
    · by_cases hj : j = i
      · simp only [if_pos hj]; exact Dis.emp
      · simp only [if_neg hj]; exact (e.dg j).un (e.dis i j (Ne.symm hj))
    · by_cases hj : j = i
      · simp only [if_pos hj]; exact fun _ _ z => nomatch z
      · simp only [if_neg hj]; exact e.sub j
    · by_cases hj : j = i
      · simp only [if_pos hj] at hx; exact absurd rfl hx
      · simp only [if_neg hj] at hx; exact e.zs j x hx
/-- a slot's value, told to all; the slots behind it -/
def lkE : Option Slot → Option D
  | some (.frz d) => some d
  | some (.own d) => if d.sol = true then some d else none
  | some (.par _) => none
  | some .nil => none
  | none => none
def thE (env : Env) (i : Nat) : Option Slot → Env
  | some (.own d) => env.set i (.frz d)
  | some (.frz _) => env
  | some (.par _) => env
  | some .nil => env
  | none => env
def eVar (i : Nat) : PTE := fun env Q => ∃ d, lkE (env[i]?) = some d ∧ Q d (thE env i (env[i]?))
theorem pure_var {i : Nat} : PurE W E Xc (tVar i) (eVar i) := by
  intro Z σ0 H G σ env φ Q Q' e x k ⟨d0, hl, q⟩
  unfold lkE at hl
  split at hl
  · rename_i d h
    cases hl
    rw [h] at q
    obtain ⟨v, a, f⟩ := e.sl i _ h
    exact ⟨v, a, k v d0 H G env φ .refl e f q⟩
  · rename_i d h
    split at hl
    · rename_i hs
      cases hl
      rw [h] at q
      obtain ⟨v, a, f, t, e2⟩ := e.freeze h hs
      exact ⟨v, a, k v d0 H _ _ _ t e2 f q⟩
    · cases hl
  · cases hl
  · cases hl
  · cases hl
def eC (d : D) : PTE := fun env Q => Q d env
theorem pure_C {v : V} {d : D} (h : ∀ G, FR W G v d) : PurE W E Xc (tC v) (eC d) := fun Z σ0 H G σ env φ Q Q' e x k q => k v d H G env φ .refl e (h _) q
theorem pure_int {i : Int} : PurE W E Xc (tC (.int i)) (eC (.int i)) := pure_C fun _ => .int i
theorem pure_str {i : Str} : PurE W E Xc (tC (.str i)) (eC (.str i)) := pure_C fun _ => .str i
theorem pure_bl {i : Bool} : PurE W E Xc (tC (.bl i)) (eC (.bl i)) := pure_C fun _ => .bl i
theorem pure_ty {i : String} : PurE W E Xc (tC (.ty i)) (eC (.ty i)) := pure_C fun _ => .ty i
theorem pure_cls {i : Addr} : PurE W E Xc (tC (.ref i)) (eC (.cls i)) := pure_C fun _ => .cls i
theorem pure_non : PurE W E Xc (tC .non) (eC .non) := pure_C fun _ => .non
/-- things that only make new things -/
theorem ER.grow (e : ER W Z σ0 H G σ env φ) (g : Grow G H G' H') : ER W Z σ0 H' G' σ env φ ∧ Ext Z G H G' H' := by
  refine ⟨⟨e.len, fun i s h => (e.sl i s h).mono g.g, e.dis, fun i b => ?_, fun i => (e.sub i).trans g.h, g.gh, fun b n => e.zn b (g.h.free n), e.zs⟩, g.g, fun b o h => (g.n b o h).imp id (e.zn b), fun b o h _ => g.h b o h⟩
  cases h : G' b with
  | none => exact .inl rfl
  | some o =>
    rcases g.n b o h with q | q
    · rcases e.dg i b with z | z
      · rw [z] at q; cases q
      · exact .inr z
    · exact .inr ((e.sub i).free q)
def eOp (p : D → D → (D → Prop) → Prop) (pa pb : PTE) : PTE := fun env Q => pa env fun x e1 => pb e1 fun y e2 => p x y fun d => Q d e2
theorem pure_op {r : R2} {p : D → D → (D → Prop) → Prop} (hr : PurR2 W r p) (ha : PurE W E Xc ta pa) (hb : PurE W E Xc tb pb) : PurE W E Xc (tOp r ta tb) (eOp p pa pb) := by
  intro Z σ0 H G σ env φ Q Q' e x k h
  refine ha Z σ0 H G σ env φ _ _ e x (fun v1 d1 H1 G1 e1 p1 t1 r1 f1 q1 => ?_) h
  refine hb Z σ0 H1 G1 σ e1 p1 _ _ r1 (x.ext t1) (fun v2 d2 H2 G2 e2 p2 t2 r2 f2 q2 => ?_) q1
  refine hr G2 H2 v1 v2 d1 d2 _ _ r2.gh (f1.mono t2.g) f2 (fun v3 d3 G3 H3 g3 f3 q3 => ?_) q2
  obtain ⟨r3, t3⟩ := r2.grow g3
  exact k v3 d3 H3 G3 e2 p2 ((t1.trans t2).trans t3) r3 f3 q3
def eUn (p : D → (D → Prop) → Prop) (pa : PTE) : PTE := fun env Q => pa env fun x e1 => p x fun d => Q d e1
theorem pure_un {r : V → Hp → VK → Prop} {p : D → (D → Prop) → Prop} (hr : PurR1 W r p) (ha : PurE W E Xc ta pa) : PurE W E Xc (tUn r ta) (eUn p pa) := by
  intro Z σ0 H G σ env φ Q Q' e x k h
  refine ha Z σ0 H G σ env φ _ _ e x (fun v1 d1 H1 G1 e1 p1 t1 r1 f1 q1 => ?_) h
  refine hr G1 H1 v1 d1 _ _ r1.gh f1 (fun v3 d3 G3 H3 g3 f3 q3 => ?_) q1
  obtain ⟨r3, t3⟩ := r1.grow g3
  exact k v3 d3 H3 G3 e1 p1 (t1.trans t3) r3 f3 q3
def tB' (pa : PTE) : PTT := fun env Q => pa env fun d e1 => asB (fun c => Q c e1) d
theorem purt_B (ha : PurE W E Xc ta pa) : PurT W E Xc (tB ta) (tB' pa) := by
  intro Z σ0 H G σ env φ Q Q' e x k h
  refine ha Z σ0 H G σ env φ _ _ e x (fun v1 d1 H1 G1 e1 p1 t1 r1 f1 q1 => ?_) h
  obtain ⟨c, ec, _, q⟩ := asB_of f1 q1
  exact ⟨c, ec, k c H1 G1 e1 p1 t1 r1 q⟩
theorem purt_test (ha : PurE W E Xc ta pa) : PurT W E Xc (tTest ta) (tB' pa) := purt_B ha
def eIf (t : PTT) (pa pb : PTE) : PTE := fun env Q => t env fun c e1 => if c = true then pa e1 Q else pb e1 Q
theorem pure_if (h : PurT W E Xc tt pt) (ha : PurE W E Xc ta pa) (hb : PurE W E Xc tb pb) : PurE W E Xc (tIf tt ta tb) (eIf pt pa pb) := by
  intro Z σ0 H G σ env φ Q Q' e x k h0
  refine h Z σ0 H G σ env φ _ _ e x (fun b H1 G1 e1 p1 t1 r1 q1 => ?_) h0
  cases b with
  | true =>
    rw [if_pos rfl] at q1 ⊢
    exact ha Z σ0 H1 G1 σ e1 p1 _ _ r1 (x.ext t1) (k.ext t1) q1
  | false =>
    rw [if_neg Bool.false_ne_true] at q1 ⊢
    exact hb Z σ0 H1 G1 σ e1 p1 _ _ r1 (x.ext t1) (k.ext t1) q1
/-! ### arguments, displays, calls of builtins -/
def eNil : PTA := fun env Q => Q [] env
def eCons (p : PTE) (r : PTA) : PTA := fun env Q => p env fun d e1 => r e1 fun ds e2 => Q (d :: ds) e2
theorem pura_nil : PurA W E Xc tNil eNil := fun Z σ0 H G σ env φ Q Q' e x k h => k [] [] H G env φ .refl e .nil h
theorem pura_cons {t : TA} {p : PTA} (h1 : PurE W E Xc ta pa) (h2 : PurA W E Xc t p) : PurA W E Xc (tCons ta t) (eCons pa p) := by
  intro Z σ0 H G σ env φ Q Q' e x k h
  refine h1 Z σ0 H G σ env φ _ _ e x (fun v1 d1 H1 G1 e1 p1 t1 r1 f1 q1 => ?_) h
  refine h2 Z σ0 H1 G1 σ e1 p1 _ _ r1 (x.ext t1) (fun vs ds H2 G2 e2 p2 t2 r2 f2 q2 => ?_) q1
  exact k _ _ H2 G2 e2 p2 (t1.trans t2) r2 (.cons (f1.mono t2.g) f2) q2
def eCB (p : List D → (D → Prop) → Prop) (a : PTA) : PTE := fun env Q => a env fun ds e1 => p ds fun d => Q d e1
theorem pure_CB {r : List V → Hp → VK → Prop} {p : List D → (D → Prop) → Prop} {t : TA} {a : PTA} (hr : PurC W r p) (ha : PurA W E Xc t a) : PurE W E Xc (tCB r t) (eCB p a) := by
  intro Z σ0 H G σ env φ Q Q' e x k h
  refine ha Z σ0 H G σ env φ _ _ e x (fun vs ds H1 G1 e1 p1 t1 r1 f1 q1 => ?_) h
  refine hr G1 H1 vs ds _ _ r1.gh f1 (fun v3 d3 G3 H3 g3 f3 q3 => ?_) q1
  obtain ⟨r3, t3⟩ := r1.grow g3
  exact k v3 d3 H3 G3 e1 p1 (t1.trans t3) r3 f3 q3
def eTup (a : PTA) : PTE := fun env Q => a env fun ds e1 => ds.length ≤ sizeLine ∧ Q (.tup ds) e1
theorem pure_tup {t : TA} {a : PTA} (ha : PurA W E Xc t a) : PurE W E Xc (tTup t) (eTup a) := by
  intro Z σ0 H G σ env φ Q Q' e x k h
  refine ha Z σ0 H G σ env φ _ _ e x (fun vs ds H1 G1 e1 p1 t1 r1 f1 q1 => ⟨by rw [f1.length]; exact q1.1, fun p hp => ?_⟩) h
  have g2 := Grow.new (o := .tup vs) r1.gh hp
  obtain ⟨r3, t3⟩ := r1.grow g2
  exact k _ _ _ _ _ _ (t1.trans t3) r3 (.tup (.inl (.inl upd_same)) (f1.mono g2.g)) q1.2
def eLst (a : PTA) : PTE := fun env Q => a env fun ds e1 => ds.length ≤ sizeLine ∧ Q (.lst ds) e1
theorem pure_lst {t : TA} {a : PTA} (ha : PurA W E Xc t a) : PurE W E Xc (tLst t) (eLst a) := by
  intro Z σ0 H G σ env φ Q Q' e x k h
  refine ha Z σ0 H G σ env φ _ _ e x (fun vs ds H1 G1 e1 p1 t1 r1 f1 q1 => ⟨by rw [f1.length]; exact q1.1, fun p hp => ?_⟩) h
  have g2 := Grow.new (o := .lst vs) r1.gh hp
  obtain ⟨r3, t3⟩ := r1.grow g2
  exact k _ _ _ _ _ _ (t1.trans t3) r3 (.lst upd_same (f1.mono g2.g)) q1.2
/-! ### values that may be one's own -/
def oE (pe : PTE) : PTO := fun env Q => pe env fun d e1 => Q (.frz d) e1
theorem puro_e (h : PurE W E Xc te pe) : PurO W E Xc te (oE pe) := by
  intro Z σ0 H G σ env φ Q Q' e x k q
  exact h Z σ0 H G σ env φ _ _ e x (fun v d H' G' env' φ' t r f q => k v (.frz d) emp H' G' env' φ' t r f q) q
/-- a new list of one's own -/
theorem ER.ownNew {p : Addr} {o : HO} (e : ER W Z σ0 H G σ env φ) (hp : H p = none) :
    ER W Z σ0 (upd H p o) G σ env φ ∧ Ext Z G H G (upd H p o) ∧ Dis G (one p o) ∧ (∀ i, Dis (φ i) (one p o)) ∧ Same (one p o) (upd H p o) ∧ ∀ b, one p o b ≠ none → Z b := by
  refine ⟨e.growH (same_upd hp), .growH (same_upd hp), fun b => ?_, fun i b => ?_, fun b u h => ?_, fun b h => ?_⟩
  · by_cases hb : b = p
    · subst hb; exact .inl (e.gh.free hp)
    · exact .inr (one_ne hb)
  · by_cases hb : b = p
    · subst hb; exact .inl ((e.sub i).free hp)
    · exact .inr (one_ne hb)
  · by_cases hb : b = p
    · subst hb
      rw [one_same] at h
      rw [upd_same]; exact h
    · rw [one_ne hb] at h; cases h
  · by_cases hb : b = p
    · subst hb; exact e.zn b hp
    · exact absurd (one_ne hb) h
def oLst (a : PTA) : PTO := fun env Q => a env fun ds e1 => ds.length ≤ sizeLine ∧ Q (.own (.lst ds)) e1
theorem puro_lst {t : TA} {a : PTA} (ha : PurA W E Xc t a) : PurO W E Xc (tLst t) (oLst a) := by
  intro Z σ0 H G σ env φ Q Q' e x k h
  refine ha Z σ0 H G σ env φ _ _ e x (fun vs ds H1 G1 e1 p1 t1 r1 f1 q1 => ⟨by rw [f1.length]; exact q1.1, fun p hp => ?_⟩) h
  obtain ⟨r2, t2, d1, d2, d3, d4⟩ := r1.ownNew (o := .lst vs) hp
  exact k _ (.own (.lst ds)) _ _ _ _ _ (t1.trans t2) r2 ⟨.lst one_same f1, d1, d2, d3, d4⟩ q1.2
/-- a name's own thing is handed on -/
def mvS : Option Slot → Option Slot
  | some (.frz d) => some (.frz d)
  | some (.own d) => some (.own d)
  | some (.par _) => none
  | some .nil => none
  | none => none
def mvE (env : Env) (i : Nat) : Option Slot → Env
  | some (.own _) => env.set i .nil
  | some (.frz _) => env
  | some (.par _) => env
  | some .nil => env
  | none => env
def oMove (i : Nat) : PTO := fun env Q => ∃ s, mvS (env[i]?) = some s ∧ Q s (mvE env i (env[i]?))
theorem ER.move {i : Nat} {d : D} (e : ER W Z σ0 H G σ env φ) (h : env[i]? = some (.own d)) :
    ∃ v, σ[i]? = some (some v) ∧ RR W Z H G (fun j => if j = i then emp else φ j) v (φ i) (.own d) ∧ ER W Z σ0 H G σ (env.set i .nil) (fun j => if j = i then emp else φ j) := by
  obtain ⟨v, a, b⟩ := e.sl i _ h
  refine ⟨v, a, ⟨b, e.dg i, fun j => ?_, e.sub i, e.zs i⟩, ?_⟩
  · by_cases hj : j = i
    · simp only [if_pos hj]; exact Dis.emp.symm
    · simp only [if_neg hj]; exact e.dis j i hj
  · refine ⟨⟨by simp [e.len.1], e.len.2⟩, fun j t hj => ?_, fun j k hjk => ?_, fun j => ?_, fun j => ?_, e.gh, e.zn, fun j x hx => ?_⟩
    · by_cases hji : j = i
      · subst hji
        have ht : t = .nil := by
          rw [List.getElem?_set_self' , h] at hj
          exact (Option.some.inj hj).symm
        subst ht
        exact trivial
      · rw [List.getElem?_set_ne (Ne.symm hji)] at hj
        simp only [if_neg hji]
        exact e.sl j t hj
    · by_cases hj : j = i
      · simp only [if_pos hj]; exact Dis.emp.symm
      · by_cases hk : k = i
        · simp only [if_neg hj, if_pos hk]; exact Dis.emp
        · simp only [if_neg hj, if_neg hk]; exact e.dis j k hjk
    · by_cases hj : j = i
      · simp only [if_pos hj]; exact Dis.emp
      · simp only [if_neg hj]; exact e.dg j
    · by_cases hj : j = i
      · simp only [if_pos hj]; exact fun _ _ z => nomatch z
      · simp only [if_neg hj]; exact e.sub j
    · by_cases hj : j = i
      · simp only [if_pos hj] at hx; exact absurd rfl hx
      · simp only [if_neg hj] at hx; exact e.zs j x hx
theorem puro_move {i : Nat} : PurO W E Xc (tVar i) (oMove i) := by
  intro Z σ0 H G σ env φ Q Q' e x k ⟨s0, hl, q⟩
  unfold mvS at hl
  split at hl
  · rename_i d h
    cases hl
    rw [h] at q
    obtain ⟨v, a, f⟩ := e.sl i _ h
    exact ⟨v, a, k v (.frz d) emp H G env φ .refl e f q⟩
  · rename_i d h
    cases hl
    rw [h] at q
    obtain ⟨v, a, f, r⟩ := e.move h
    exact ⟨v, a, k v _ _ H G _ _ .refl r f q⟩
  · cases hl
  · cases hl
  · cases hl
def oIf (t : PTT) (pa pb : PTO) : PTO := fun env Q => t env fun c e1 => if c = true then pa e1 Q else pb e1 Q
theorem puro_if {pa pb : PTO} (h : PurT W E Xc tt pt) (ha : PurO W E Xc ta pa) (hb : PurO W E Xc tb pb) : PurO W E Xc (tIf tt ta tb) (oIf pt pa pb) := by
  intro Z σ0 H G σ env φ Q Q' e x k h0
  refine h Z σ0 H G σ env φ _ _ e x (fun b H1 G1 e1 p1 t1 r1 q1 => ?_) h0
  cases b with
  | true =>
    rw [if_pos rfl] at q1 ⊢
    exact ha Z σ0 H1 G1 σ e1 p1 _ _ r1 (x.ext t1) (fun v s F H2 G2 e2 p2 t2 => k v s F H2 G2 e2 p2 (t1.trans t2)) q1
  | false =>
    rw [if_neg Bool.false_ne_true] at q1 ⊢
    exact hb Z σ0 H1 G1 σ e1 p1 _ _ r1 (x.ext t1) (fun v s F H2 G2 e2 p2 t2 => k v s F H2 G2 e2 p2 (t1.trans t2)) q1
end
end Pu

set_option Elab.async false
set_option linter.all false
set_option maxRecDepth 100000
namespace Pu
open PySem PySem.Spec L2

section
variable {W : Wd} {E : XK} {Xc : XP} {ta tb tc te : TE} {pa pb pc pe : PTE} {tt : TT} {pt : PTT} {ts tu : TS} {ps pu : PTS} {Z : Addr → Prop} {σ0 : L2.St} {H G H' G' : Hp} {σ : L2.St} {env : Env} {φ : Nat → Hp}

/-! ### statements -/
def sNext : PTS := fun D env => D.nx env
def sSeq (p u : PTS) : PTS := fun D env => p { D with nx := u D } env
theorem purs_next : PurS W E Xc tNext sNext := fun Z σ0 H G σ env φ D D' e x k h => k.nx σ H G env φ .refl e h
theorem purs_seq (h1 : PurS W E Xc ts ps) (h2 : PurS W E Xc tu pu) : PurS W E Xc (tSeq ts tu) (sSeq ps pu) := by
  intro Z σ0 H G σ env φ D D' e x k h
  refine h1 Z σ0 H G σ env φ { D with nx := tu D } { D' with nx := pu D' } e x ⟨fun σ' H' G' env' φ' t r q => ?_, k.rt, k.bk, k.ct⟩ h
  exact h2 Z σ0 H' G' σ' env' φ' D D' r (x.ext t) (k.ext t) q
/-- by what holds between -/
def midOk (M : Env → Prop) (u : PTS) (L : PEnds) : Prop := ∀ e, M e → u L e
def sMid (t u : PTS) : PTS := fun D env => ∃ M : Env → Prop, t { D with nx := M } env ∧ midOk M u D
theorem purs_mid (h1 : PurS W E Xc ts ps) (h2 : PurS W E Xc tu pu) : PurS W E Xc (tSeq ts tu) (sMid ps pu) := by
  intro Z σ0 H G σ env φ D D' e x k ⟨M, h, hm⟩
  refine h1 Z σ0 H G σ env φ { D with nx := tu D } { D' with nx := M } e x ⟨fun σ' H' G' env' φ' t r q => ?_, k.rt, k.bk, k.ct⟩ h
  exact h2 Z σ0 H' G' σ' env' φ' D D' r (x.ext t) (k.ext t) (hm _ q)
def sBreak : PTS := fun D env => D.bk env
def sCont : PTS := fun D env => D.ct env
theorem purs_break : PurS W E Xc tBreak sBreak := fun Z σ0 H G σ env φ D D' e x k h => k.bk σ H G env φ .refl e h
theorem purs_cont : PurS W E Xc tCont sCont := fun Z σ0 H G σ env φ D D' e x k h => k.ct σ H G env φ .refl e h
def sDrop (pe : PTE) : PTS := fun D env => pe env fun _ e1 => D.nx e1
theorem purs_drop (h : PurE W E Xc te pe) : PurS W E Xc (tDrop te) (sDrop pe) := by
  intro Z σ0 H G σ env φ D D' e x k q
  exact h Z σ0 H G σ env φ _ _ e x (fun v d H1 G1 e1 p1 t1 r1 f1 q1 => k.nx σ H1 G1 e1 p1 t1 r1 q1) q
def sRet (po : PTO) : PTS := fun D env => po env D.rt
theorem purs_ret {po : PTO} (h : PurO W E Xc te po) : PurS W E Xc (tRet te) (sRet po) := by
  intro Z σ0 H G σ env φ D D' e x k q
  exact h Z σ0 H G σ env φ _ _ e x (fun v s F H1 G1 e1 p1 t1 r1 f1 q1 => k.rt v s F σ H1 G1 e1 p1 t1 r1 f1 q1) q
def sRetN : PTS := fun D env => D.rt (.frz .non) env
theorem purs_retN : PurS W E Xc tRetN sRetN := fun Z σ0 H G σ env φ D D' e x k h => k.rt .non (.frz .non) emp σ H G env φ .refl e .non h
def sIf (t : PTT) (p u : PTS) : PTS := fun D env => t env fun c e1 => if c = true then p D e1 else u D e1
theorem purs_if (h : PurT W E Xc tt pt) (h1 : PurS W E Xc ts ps) (h2 : PurS W E Xc tu pu) : PurS W E Xc (tIfS tt ts tu) (sIf pt ps pu) := by
  intro Z σ0 H G σ env φ D D' e x k q
  refine h Z σ0 H G σ env φ _ _ e x (fun b H1 G1 e1 p1 t1 r1 q1 => ?_) q
  cases b with
  | true =>
    rw [if_pos rfl] at q1 ⊢
    exact h1 Z σ0 H1 G1 σ e1 p1 D D' r1 (x.ext t1) (k.ext t1) q1
  | false =>
    rw [if_neg Bool.false_ne_true] at q1 ⊢
    exact h2 Z σ0 H1 G1 σ e1 p1 D D' r1 (x.ext t1) (k.ext t1) q1
def sNever : PTS := fun _ _ => False
theorem purs_never : PurS W E Xc tNever sNever := fun Z σ0 H G σ env φ D D' e x k h => h
/-- a slot that may be stored to -/
def free (env : Env) (i : Nat) : Prop := match env[i]? with
  | some (.par _) => False
  | some _ => True
  | none => False
theorem ER.store {i : Nat} {v : V} {d : D} (e : ER W Z σ0 H G σ env φ) (hf : free env i) (f : FR W G v d) :
    ER W Z σ0 H G (σ.set i (some v)) (env.set i (.frz d)) (fun j => if j = i then emp else φ j) := by
  have hi : i < σ.length := by
    unfold free at hf
    rw [e.len.1]
    cases h : env[i]? with
    | none => rw [h] at hf; exact hf.elim
    | some s => exact (List.getElem?_eq_some_iff.mp h).1
  exact e.setSlot (s := .frz d) ⟨v, by rw [List.getElem?_set_self hi], f⟩ Dis.emp (fun _ _ => Dis.emp) (fun _ _ z => nomatch z) (fun _ z => absurd rfl z)
theorem ER.storeR {i : Nat} {v : V} {s : Slot} {F : Hp} (e : ER W Z σ0 H G σ env φ) (hf : free env i) (f : RR W Z H G φ v F s) :
    ∃ φ', ER W Z σ0 H G (σ.set i (some v)) (env.set i s) φ' := by
  have hi : i < σ.length := by
    unfold free at hf
    rw [e.len.1]
    cases h : env[i]? with
    | none => rw [h] at hf; exact hf.elim
    | some s => exact (List.getElem?_eq_some_iff.mp h).1
  cases s with
  | frz d => exact ⟨_, e.store hf f⟩
  | own d =>
    obtain ⟨a, b, c, d1, d2⟩ := f
    exact ⟨_, e.setSlot (s := .own d) (F := F) ⟨v, by rw [List.getElem?_set_self hi], a⟩ b (fun j _ => c j) d1 d2⟩
  | nil => exact f.elim
  | par _ => exact f.elim
def gN (i : Nat) : PTG := fun d env Q => free env i ∧ Q (env.set i (.frz d))
theorem purg_name {i : Nat} : PurG W (gName i) (gN i) := by
  intro Z σ0 H G σ env φ v d Q Q' e f k h
  exact k _ _ _ (e.store h.1 f) h.2
def PurGs (W : Wd) (g : TGs) (p : PTGs) : Prop :=
  ∀ Z σ0 H G σ env φ vs ds (Q : L2.St → Hp → Prop) (Q' : Env → Prop), ER W Z σ0 H G σ env φ → FRs W G vs ds → (∀ σ' env' φ', ER W Z σ0 H G σ' env' φ' → Q' env' → Q σ' H) → p ds env Q' → g vs σ H Q
def gsNil : PTGs := fun ds env Q => ds = [] ∧ Q env
def gsCons (p : PTG) (r : PTGs) : PTGs := fun ds env Q => match ds with
  | d :: ds => p d env fun e1 => r ds e1 Q
  | [] => False
theorem purgs_nil : PurGs W gNil gsNil := by
  intro Z σ0 H G σ env φ vs ds Q Q' e f k h
  obtain ⟨rfl, h⟩ := h
  cases f
  exact ⟨rfl, k _ _ _ e h⟩
theorem purgs_cons {g : TG} {gs : TGs} {p : PTG} {r : PTGs} (h1 : PurG W g p) (h2 : PurGs W gs r) : PurGs W (gCons g gs) (gsCons p r) := by
  intro Z σ0 H G σ env φ vs ds Q Q' e f k h
  cases f with
  | nil => exact h.elim
  | @cons v vs d ds f1 f2 =>
    refine ⟨v, vs, rfl, ?_⟩
    exact h1 Z σ0 H G σ env φ v d _ _ e f1 (fun σ1 e1 p1 r1 q1 => h2 Z σ0 H G σ1 e1 p1 vs ds Q Q' r1 f2 k q1) h
def gT (n : Nat) (p : PTGs) : PTG := fun d env Q => match d with
  | .tup ds => ds.length = n ∧ p ds env Q
  | _ => False
theorem purg_tup {gs : TGs} {p : PTGs} {n : Nat} (h : PurGs W gs p) : PurG W (gTup W.K n gs) (gT n p) := by
  intro Z σ0 H G σ env φ v d Q Q' e f k q
  cases f with
  | tup hs t => exact ⟨_, _, rfl, sqt_mono e.gh hs, by rw [t.length]; exact q.1, h Z σ0 H G σ env φ _ _ Q Q' e t k q.2⟩
  | _ => exact q.elim
/-- x = e -/
def sSet (i : Nat) (po : PTO) : PTS := fun D env => po env fun s e1 => free e1 i ∧ D.nx (e1.set i s)
theorem purs_set {i : Nat} {po : PTO} (h : PurO W E Xc te po) : PurS W E Xc (tAsg te (gName i)) (sSet i po) := by
  intro Z σ0 H G σ env φ D D' e x k q
  refine h Z σ0 H G σ env φ _ _ e x (fun v s F H1 G1 e1 p1 t1 r1 f1 q1 => ?_) q
  obtain ⟨φ', r2⟩ := r1.storeR q1.1 f1
  exact k.nx _ H1 G1 _ φ' t1 r2 q1.2
/-- a, b = e -/
def sAsg (g : PTG) (pe : PTE) : PTS := fun D env => pe env fun d e1 => g d e1 D.nx
theorem purs_asg {g : TG} {p : PTG} (hg : PurG W g p) (h : PurE W E Xc te pe) : PurS W E Xc (tAsg te g) (sAsg p pe) := by
  intro Z σ0 H G σ env φ D D' e x k q
  refine h Z σ0 H G σ env φ _ _ e x (fun v d H1 G1 e1 p1 t1 r1 f1 q1 => ?_) q
  exact hg Z σ0 H1 G1 σ e1 p1 v d _ _ r1 f1 (fun σ' env' φ' r q => k.nx σ' H1 G1 env' φ' t1 r q) q1
/-- a, b = e1, e2 -/
def sPar (i j : Nat) (pa : PTA) : PTS := fun D env => pa env fun ds e1 => match ds with
  | [d, e] => i ≠ j ∧ free e1 i ∧ free e1 j ∧ D.nx ((e1.set i (.frz d)).set j (.frz e))
  | _ => False
theorem free_set {env : Env} {i j : Nat} {s : Slot} (h : i ≠ j) (hf : free env j) : free (env.set i s) j := by
  unfold free at hf ⊢
  rw [List.getElem?_set_ne h]
  exact hf
theorem purs_par {i j : Nat} {t : TA} {pa : PTA} (h : PurA W E Xc t pa) : PurS W E Xc (tPar i j t) (sPar i j pa) := by
  intro Z σ0 H G σ env φ D D' e x k q
  refine h Z σ0 H G σ env φ _ _ e x (fun vs ds H1 G1 e1 p1 t1 r1 f1 q1 => ?_) q
  match ds, q1 with
  | [d, d2], q1 =>
    obtain ⟨v, u, rfl, g1, g2⟩ := frs2 f1
    obtain ⟨hij, hi, hj, q1⟩ := q1
    exact ⟨v, u, rfl, k.nx _ H1 G1 _ _ t1 ((r1.store hi g1).store (free_set hij hj) g2) q1⟩
/-- x += e of ints -/
def lkF : Option Slot → Option D
  | some (.frz d) => some d
  | some (.own _) => none
  | some (.par _) => none
  | some .nil => none
  | none => none
def sAug (i : Nat) (p : D → D → (D → Prop) → Prop) (pe : PTE) : PTS := fun D env => ∃ d0, lkF (env[i]?) = some d0 ∧ pe env fun d e1 => p d0 d fun z => free e1 i ∧ D.nx (e1.set i (.frz z))
theorem purs_aug {i : Nat} {f : Int → Int → Int} (h : PurE W E Xc te pe) : PurS W E Xc (tAug i te (ipI f)) (sAug i (pI0 fun a b => .int (f a b)) pe) := by
  intro Z σ0 H G σ env φ D D' e x k ⟨d0, hl, q⟩
  have h0 : env[i]? = some (.frz d0) := by
    unfold lkF at hl
    split at hl <;> cases hl
    assumption
  obtain ⟨v0, a, f0⟩ := e.sl i _ h0
  refine ⟨v0, a, h Z σ0 H G σ env φ _ _ e x (fun v d H1 G1 e1 p1 t1 r1 f1 q1 => ?_) q⟩
  obtain ⟨m, n, ea, eb, q2⟩ := pI0_of (f0.mono t1.g) f1 q1
  exact ⟨m, n, ea, eb, k.nx _ H1 G1 _ _ t1 (r1.store q2.1 (.int _)) q2.2⟩

/-! ### loops -/
/-- what is walked: the items, as they stand through the loop -/
def IT (W : Wd) (G : Hp) (J : It) (ds : List D) : Prop :=
  (∀ i H, Same G H → ds.length ≤ i → J.stop i H) ∧ (∀ i H, Same G H → i < ds.length → J.go i H) ∧
  ∀ i d H x H', Same G H → ds[i]? = some d → J.yld i H x H' → ∃ G', Grow G H G' H' ∧ FR W G' x d
def PurI (W : Wd) (E : XK) (Xc : XP) (wi : TI) (pi : PTA) : Prop :=
  ∀ Z σ0 H G σ env φ (R : It → Hp → Prop) (Q' : List D → Env → Prop), ER W Z σ0 H G σ env φ → XOk W Z G H E Xc →
    (∀ J ds H' G' env' φ', Ext Z G H G' H' → ER W Z σ0 H' G' σ env' φ' → (∀ G2, Same G' G2 → IT W G2 J ds) → Q' ds env' → R J H') → pi env Q' → wi σ H R
/-- by an invariant: I i, ahead of the i-th turn -/
def forOk (g : PTG) (b : PTS) (L : PEnds) (ds : List D) (I : Nat → Env → Prop) : Prop := ∀ i e, I i e →
  (∀ d, ds[i]? = some d → g d e fun e2 => b { L with nx := I (i + 1), ct := I (i + 1), bk := L.nx } e2) ∧ (i = ds.length → L.nx e)
def sForI (pi : PTA) (g : PTG) (b : PTS) : PTS := fun D env => pi env fun ds e1 => ∃ I : Nat → Env → Prop, I 0 e1 ∧ forOk g b D ds I
theorem purs_for {wi : TI} {pi : PTA} {g : TG} {p : PTG} (hi : PurI W E Xc wi pi) (hg : PurG W g p) (hb : PurS W E Xc ts ps) : PurS W E Xc (tFor wi g ts) (sForI pi p ps) := by
  intro Z σ0 H G σ env φ D D' e x k q
  refine hi Z σ0 H G σ env φ _ _ e x (fun J ds H1 G1 e1 p1 t1 r1 it q1 => ?_) q
  obtain ⟨I, I0, st⟩ := q1
  refine ⟨fun i m σ' H' => m = ds.length - i ∧ i ≤ ds.length ∧ ∃ G' env' φ', Ext Z G H G' H' ∧ Ext Z G1 H1 G' H' ∧ ER W Z σ0 H' G' σ' env' φ' ∧ I i env', ⟨ds.length, by simp, Nat.zero_le _, G1, e1, p1, t1, .refl, r1, I0⟩, ?_⟩
  rintro i m σ' H' ⟨rfl, hle, G', env', φ', t2, t3, r2, q2⟩
  obtain ⟨i1, i2, i3⟩ := it G' t3.g
  by_cases hlt : i < ds.length
  · refine .inr ⟨i2 i H' r2.gh hlt, fun σ2 H2 => ∃ G2 e2 p2, Ext Z G H G2 H2 ∧ Ext Z G1 H1 G2 H2 ∧ ER W Z σ0 H2 G2 σ2 e2 p2 ∧ I (i + 1) e2, fun σ2 H2 ⟨G2, e2, p2, a, b, c, d⟩ => ⟨ds.length - (i + 1), by omega, rfl, hlt, G2, e2, p2, a, b, c, d⟩, fun y H2 hy => ?_⟩
    obtain ⟨G2, g2, f2⟩ := i3 i ds[i] H' y H2 r2.gh (List.getElem?_eq_getElem hlt) hy
    obtain ⟨r3, t4⟩ := r2.grow g2
    refine hg Z σ0 H2 G2 σ' env' φ' y ds[i] _ _ r3 f2 (fun σ3 e3 p3 r4 q4 => ?_) ((st i env' q2).1 _ (List.getElem?_eq_getElem hlt))
    refine hb Z σ0 H2 G2 σ3 e3 p3 _ { D' with nx := I (i + 1), ct := I (i + 1), bk := D'.nx } r4 (x.ext (t2.trans t4)) ⟨fun σ5 H5 G5 e5 p5 t5 r5 q5 => ?_, ((k.ext t2).ext t4).rt, ((k.ext t2).ext t4).nx, fun σ5 H5 G5 e5 p5 t5 r5 q5 => ?_⟩ q4
    · exact ⟨G5, e5, p5, (t2.trans t4).trans t5, (t3.trans t4).trans t5, r5, q5⟩
    · exact ⟨G5, e5, p5, (t2.trans t4).trans t5, (t3.trans t4).trans t5, r5, q5⟩
  · exact .inl ⟨i1 i H' r2.gh (by omega), k.nx σ' H' G' env' φ' t2 r2 ((st i env' q2).2 (by omega))⟩
/-- over a list, a tuple, a range -/
def lsO : D → Option (List D)
  | .lst ds => some ds
  | .scr ns => some (ns.map D.int)
  | .non => none
  | .bl _ => none
  | .int _ => none
  | .str _ => none
  | .tup _ => none
  | .dct _ _ => none
  | .hdl _ _ => none
  | .cls _ => none
  | .ty _ => none
  | .exc _ _ _ _ => none
def tpO : D → Option (List D)
  | .tup ds => some ds
  | .lst _ => none
  | .scr _ => none
  | .non => none
  | .bl _ => none
  | .int _ => none
  | .str _ => none
  | .dct _ _ => none
  | .hdl _ _ => none
  | .cls _ => none
  | .ty _ => none
  | .exc _ _ _ _ => none
def iL (pe : PTE) : PTA := fun env Q => pe env fun d e1 => ∃ ds, lsO d = some ds ∧ Q ds e1
theorem frs_ints : ∀ ns : List Int, FRs W G (ns.map V.int) (ns.map D.int)
  | [] => .nil
  | _ :: ns => .cons (.int _) (frs_ints ns)
def iT (pe : PTE) : PTA := fun env Q => pe env fun d e1 => ∃ ds, tpO d = some ds ∧ Q ds e1
theorem it_list {a : Addr} {vs : List V} {ds : List D} (h : SqL W.K G a vs) (f : FRs W G vs ds) : IT W G (Itl W.K a) ds := by
  refine ⟨fun i H e hi => ⟨vs, e.seq h, by rw [f.length]; exact hi⟩, fun i H e hi => ?_, fun i d H x H' e hd hy => ?_⟩
  · obtain ⟨v, hv, _⟩ := f.get (List.getElem?_eq_getElem hi)
    exact ⟨vs, v, e.seq h, hv⟩
  · obtain ⟨rfl, hx⟩ := hy
    obtain ⟨v, hv, fv⟩ := f.get hd
    have := hx vs (e.seq h)
    rw [hv] at this
    cases this
    exact ⟨G, Grow.refl e, fv⟩
theorem it_tup {a : Addr} {vs : List V} {ds : List D} (h : SqT W.K G a vs) (f : FRs W G vs ds) : IT W G (Itt W.K a) ds := by
  refine ⟨fun i H e hi => ⟨vs, sqt_mono e h, by rw [f.length]; exact hi⟩, fun i H e hi => ?_, fun i d H x H' e hd hy => ?_⟩
  · obtain ⟨v, hv, _⟩ := f.get (List.getElem?_eq_getElem hi)
    exact ⟨vs, v, sqt_mono e h, hv⟩
  · obtain ⟨rfl, hx⟩ := hy
    obtain ⟨v, hv, fv⟩ := f.get hd
    have := hx vs (sqt_mono e h)
    rw [hv] at this
    cases this
    exact ⟨G, Grow.refl e, fv⟩
theorem puri_list (h : PurE W E Xc te pe) : PurI W E Xc (iList W.K te) (iL pe) := by
  intro Z σ0 H G σ env φ R Q' e x k q
  refine h Z σ0 H G σ env φ _ _ e x (fun v d H1 G1 e1 p1 t1 r1 f1 q1 => ?_) q
  obtain ⟨ds0, hl, q1⟩ := q1
  cases f1 with
  | scr hs => cases hl; exact ⟨_, rfl, ⟨_, r1.gh.seq hs⟩, k _ _ H1 G1 e1 p1 t1 r1 (fun G2 s => it_list (s.seq hs) (frs_ints _)) q1⟩
  | lst hs t => cases hl; exact ⟨_, rfl, ⟨_, SqL.of (r1.gh _ _ hs)⟩, k _ _ H1 G1 e1 p1 t1 r1 (fun G2 s => it_list (SqL.of (s _ _ hs)) (t.mono s)) q1⟩
  | _ => cases hl
theorem puri_tup (h : PurE W E Xc te pe) : PurI W E Xc (iTup W.K te) (iT pe) := by
  intro Z σ0 H G σ env φ R Q' e x k q
  refine h Z σ0 H G σ env φ _ _ e x (fun v d H1 G1 e1 p1 t1 r1 f1 q1 => ?_) q
  obtain ⟨ds0, hl, q1⟩ := q1
  cases f1 with
  | tup hs t => cases hl; exact ⟨_, rfl, ⟨_, sqt_mono r1.gh hs⟩, k _ _ H1 G1 e1 p1 t1 r1 (fun G2 s => it_tup (sqt_mono s hs) (t.mono s)) q1⟩
  | _ => cases hl
def rng (lo : Int) (n : Nat) : List D := (List.range n).map fun (k : Nat) => D.int (lo + (k : Int))
theorem it_rng {lo : Int} {n : Nat} : IT W G (Itr lo n) (rng lo n) := by
  refine ⟨fun i H e hi => (show n ≤ i by simpa [rng] using hi), fun i H e hi => (show i < n by simpa [rng] using hi), fun i d H x H' e hd hy => ?_⟩
  obtain ⟨rfl, rfl⟩ := hy
  have hi : i < n := by
    have := (List.getElem?_eq_some_iff.mp hd).1
    simpa [rng] using this
  have : d = .int (lo + i) := by
    have e2 : (rng lo n)[i]? = some (.int (lo + i)) := by simp [rng, hi]
    rw [e2] at hd
    exact (Option.some.inj hd).symm
  subst this
  exact ⟨G, Grow.refl e, .int _⟩
def iR1 (pa : PTA) : PTA := fun env Q => pa env fun ds e1 => match ds with
  | [.int j] => (-(2 ^ 62) ≤ j ∧ j < 2 ^ 62) ∧ Q (rng 0 j.toNat) e1
  | _ => False
def iR2 (pa : PTA) : PTA := fun env Q => pa env fun ds e1 => match ds with
  | [.int i, .int j] => (-(2 ^ 62) ≤ i ∧ i < 2 ^ 62 ∧ -(2 ^ 62) ≤ j ∧ j < 2 ^ 62) ∧ Q (rng i (j - i).toNat) e1
  | _ => False
theorem puri_r1 {t : TA} {pa : PTA} (h : PurA W E Xc t pa) : PurI W E Xc (iRng1 t) (iR1 pa) := by
  intro Z σ0 H G σ env φ R Q' e x k q
  refine h Z σ0 H G σ env φ _ _ e x (fun vs ds H1 G1 e1 p1 t1 r1 f1 q1 => ?_) q
  match ds, q1 with
  | [.int j], q1 =>
    obtain ⟨v, rfl, f⟩ := frs1 f1
    cases f
    exact ⟨j, rfl, q1.1.1, q1.1.2, k _ _ H1 G1 e1 p1 t1 r1 (fun G2 s => it_rng) q1.2⟩
theorem puri_r2 {t : TA} {pa : PTA} (h : PurA W E Xc t pa) : PurI W E Xc (iRng2 t) (iR2 pa) := by
  intro Z σ0 H G σ env φ R Q' e x k q
  refine h Z σ0 H G σ env φ _ _ e x (fun vs ds H1 G1 e1 p1 t1 r1 f1 q1 => ?_) q
  match ds, q1 with
  | [.int i, .int j], q1 =>
    obtain ⟨v, u, rfl, f, f2⟩ := frs2 f1
    cases f
    cases f2
    exact ⟨i, j, rfl, q1.1, k _ _ H1 G1 e1 p1 t1 r1 (fun G2 s => it_rng) q1.2⟩
/-- while -/
def whileOk (pt : PTT) (b : PTS) (D : PEnds) (I : Nat → Env → Prop) : Prop := ∀ m env, I m env →
  pt env fun c e1 => if c = true then b { D with nx := fun e => ∃ m', m' < m ∧ I m' e, ct := fun e => ∃ m', m' < m ∧ I m' e, bk := D.nx } e1 else D.nx e1
def sWhile (pt : PTT) (b : PTS) : PTS := fun D env => ∃ I : Nat → Env → Prop, (∃ m, I m env) ∧ whileOk pt b D I
theorem purs_while (hc : PurT W E Xc tt pt) (hb : PurS W E Xc ts ps) : PurS W E Xc (tWhile tt ts) (sWhile pt ps) := by
  intro Z σ0 H G σ env φ D D' e x k ⟨I, ⟨m0, h0⟩, q⟩
  refine ⟨fun m σ' H' => ∃ G' env' φ', Ext Z G H G' H' ∧ ER W Z σ0 H' G' σ' env' φ' ∧ I m env', ⟨m0, G, env, φ, .refl, e, h0⟩, ?_⟩
  rintro m σ' H' ⟨G', env', φ', t1, r1, i1⟩
  refine hc Z σ0 H' G' σ' env' φ' _ _ r1 (x.ext t1) (fun b H2 G2 e2 p2 t2 r2 q2 => ?_) (q m env' i1)
  cases b with
  | false =>
    rw [if_neg Bool.false_ne_true] at q2 ⊢
    exact k.nx σ' H2 G2 e2 p2 (t1.trans t2) r2 q2
  | true =>
    rw [if_pos rfl] at q2 ⊢
    refine ⟨fun σ3 H3 => ∃ m', m' < m ∧ ∃ G3 e3 p3, Ext Z G H G3 H3 ∧ ER W Z σ0 H3 G3 σ3 e3 p3 ∧ I m' e3, fun σ3 H3 ⟨m', hm, q3⟩ => ⟨m', hm, q3⟩, ?_⟩
    refine hb Z σ0 H2 G2 σ' e2 p2 _ { D' with nx := fun e => ∃ m', m' < m ∧ I m' e, ct := fun e => ∃ m', m' < m ∧ I m' e, bk := D'.nx } r2 (x.ext (t1.trans t2)) ⟨fun σ5 H5 G5 e5 p5 t5 r5 ⟨m', hm, q5⟩ => ⟨m', hm, G5, e5, p5, (t1.trans t2).trans t5, r5, q5⟩, (k.ext (t1.trans t2)).rt, (k.ext (t1.trans t2)).nx,
      fun σ5 H5 G5 e5 p5 t5 r5 ⟨m', hm, q5⟩ => ⟨m', hm, G5, e5, p5, (t1.trans t2).trans t5, r5, q5⟩⟩ q2
end
end Pu

set_option Elab.async false
set_option linter.all false
set_option maxRecDepth 100000
namespace Pu
open PySem PySem.Spec L2

/-! ### what a def promises, by data -/
abbrev PSp := List Slot → (Slot → Env → Prop) → XP → Prop
def Zn (H : Hp) (φ : Nat → Hp) : Addr → Prop := fun b => H b = none ∨ ∃ i, φ i b ≠ none
def spOf (W : Wd) (ps : PSp) : Sp := fun vs H Q E => ∃ (G : Hp) (as : List Slot) (φ : Nat → Hp) (Q' : Slot → Env → Prop) (Xc : XP),
  ER W (Zn H φ) (vs.map some) H G (vs.map some) as φ ∧ ps as Q' Xc ∧
  (∀ v s F H' G' outs ψ, Ext (Zn H φ) G H G' H' → ER W (Zn H φ) (vs.map some) H' G' (vs.map some) outs ψ → RR W (Zn H φ) H' G' ψ v F s → Q' s outs → Q v H') ∧ XOk W (Zn H φ) G H E Xc

inductive CArg where
  | val (d : D) | ref (i : Nat)
abbrev PCA := Env → (List CArg → Env → Prop) → Prop
def CAR (W : Wd) (G : Hp) (σ : L2.St) (v : V) : CArg → Prop
  | .val d => FR W G v d
  | .ref i => σ[i]? = some (some v)
def CARs (W : Wd) (G : Hp) (σ : L2.St) : List V → List CArg → Prop
  | [], [] => True
  | v :: vs, a :: as => CAR W G σ v a ∧ CARs W G σ vs as
  | _, _ => False
def refs : List CArg → List Nat
  | [] => []
  | .val _ :: r => refs r
  | .ref i :: r => i :: refs r
/-- the arguments as slots -/
def resolve (e : Env) : List CArg → List Slot
  | [] => []
  | .val d :: r => .frz d :: resolve e r
  | .ref i :: r => (match e[i]? with
    | some (.own d) => .par d
    | some (.par d) => .par d
    | _ => .nil) :: resolve e r
def upSlot : Option Slot → Slot → Slot
  | some (.own _), .par d => .own d
  | some (.par _), .par d => .par d
  | _, _ => .nil
def putBack (e : Env) : List CArg → List Slot → Env
  | .val _ :: r, _ :: os => putBack e r os
  | .ref i :: r, o :: os => (putBack e r os).set i (upSlot (e[i]?) o)
  | _, _ => e
def allRef (e : Env) (as : List CArg) : Prop := (refs as).Nodup ∧ ∀ i ∈ refs as, ∃ d, e[i]? = some (.own d) ∨ e[i]? = some (.par d)
section
variable {W : Wd} {E : XK} {Xc : XP} {ta tb tc te : TE} {pa pb pc pe : PTE} {Z : Addr → Prop} {σ0 : L2.St} {H G H' G' : Hp} {σ : L2.St} {env : Env} {φ : Nat → Hp}
theorem CARs.length : ∀ {vs : List V} {as : List CArg}, CARs W G σ vs as → vs.length = as.length
  | [], [], _ => rfl
  | _ :: _, _ :: _, h => by simp [CARs.length h.2]
  | [], _ :: _, h => h.elim
  | _ :: _, [], h => h.elim
theorem CARs.get : ∀ {vs : List V} {as : List CArg} {k : Nat} {a : CArg}, CARs W G σ vs as → as[k]? = some a → ∃ v, vs[k]? = some v ∧ CAR W G σ v a
  | v :: vs, b :: as, 0, a, h, e => by
    simp at e
    subst e
    exact ⟨v, rfl, h.1⟩
  | v :: vs, b :: as, k + 1, a, h, e => by
    obtain ⟨u, h1, h2⟩ := CARs.get (k := k) (a := a) h.2 (by simpa using e)
    exact ⟨u, by simpa using h1, h2⟩
  | [], [], _, _, _, e => by simp at e
  | [], _ :: _, _, _, h, _ => h.elim
  | _ :: _, [], _, _, h, _ => h.elim
theorem CAR.mono (s : Same G G') {v : V} : ∀ {a : CArg}, CAR W G σ v a → CAR W G' σ v a
  | .val _, h => FR.mono s h
  | .ref _, h => h
theorem CARs.mono (s : Same G G') : ∀ {vs : List V} {as : List CArg}, CARs W G σ vs as → CARs W G' σ vs as
  | [], [], h => h
  | _ :: _, _ :: _, h => ⟨CAR.mono s h.1, CARs.mono s h.2⟩
  | [], _ :: _, h => h.elim
  | _ :: _, [], h => h.elim
def argF (φ : Nat → Hp) (as : List CArg) : Nat → Hp := fun k => match as[k]? with
  | some (.ref i) => φ i
  | _ => emp
theorem argF_ref {as : List CArg} {k i : Nat} (h : as[k]? = some (.ref i)) : argF φ as k = φ i := by unfold argF; rw [h]
theorem argF_cases (as : List CArg) (k : Nat) : argF φ as k = emp ∨ ∃ i, as[k]? = some (.ref i) ∧ argF φ as k = φ i := by
  unfold argF
  split
  · rename_i i h
    exact .inr ⟨i, h, rfl⟩
  · exact .inl rfl
theorem mem_refs : ∀ {as : List CArg} {k i : Nat}, as[k]? = some (.ref i) → i ∈ refs as
  | a :: r, 0, i, h => by
    simp at h
    subst h
    exact List.mem_cons_self
  | .val _ :: r, k + 1, i, h => mem_refs (as := r) (k := k) (by simpa using h)
  | .ref _ :: r, k + 1, i, h => List.mem_cons_of_mem _ (mem_refs (as := r) (k := k) (by simpa using h))
  | [], _, _, h => by simp at h
theorem refs_inj : ∀ {as : List CArg} {k l i : Nat}, (refs as).Nodup → as[k]? = some (.ref i) → as[l]? = some (.ref i) → k = l
  | [], _, _, _, _, h, _ => by simp at h
  | .val _ :: r, 0, _, i, _, h, _ => by simp at h
  | .val _ :: r, _ + 1, 0, i, _, _, h => by simp at h
  | .val _ :: r, k + 1, l + 1, i, n, h1, h2 => congrArg (· + 1) (refs_inj (as := r) (k := k) (l := l) (i := i) n (by simpa using h1) (by simpa using h2))
  | .ref j :: r, 0, 0, i, n, h1, h2 => rfl
  | .ref j :: r, 0, l + 1, i, n, h1, h2 => by
    have e : j = i := by simpa using h1
    subst e
    have m := mem_refs (as := r) (k := l) (by simpa using h2)
    exact absurd m (List.nodup_cons.mp n).1
  | .ref j :: r, k + 1, 0, i, n, h1, h2 => by
    have e : j = i := by simpa using h2
    subst e
    have m := mem_refs (as := r) (k := k) (by simpa using h1)
    exact absurd m (List.nodup_cons.mp n).1
  | .ref j :: r, k + 1, l + 1, i, n, h1, h2 => congrArg (· + 1) (refs_inj (as := r) (k := k) (l := l) (i := i) (List.nodup_cons.mp n).2 (by simpa using h1) (by simpa using h2))
theorem resolve_get {e : Env} : ∀ {as : List CArg} {k : Nat} {s : Slot}, (resolve e as)[k]? = some s →
    (∃ d, as[k]? = some (.val d) ∧ s = .frz d) ∨ ∃ i, as[k]? = some (.ref i) ∧ s = (match e[i]? with
    | some (.own d) => Slot.par d
    | some (.par d) => .par d
    | _ => .nil)
  | [], _, _, h => by simp [resolve] at h
  | .val d :: r, 0, s, h => by
    simp [resolve] at h
    exact .inl ⟨d, rfl, h.symm⟩
  | .val d :: r, k + 1, s, h => resolve_get (as := r) (k := k) (by simpa [resolve] using h)
  | .ref i :: r, 0, s, h => .inr ⟨i, rfl, by simpa [resolve] using h.symm⟩
  | .ref i :: r, k + 1, s, h => resolve_get (as := r) (k := k) (by simpa [resolve] using h)
theorem resolve_length {e : Env} : ∀ {as : List CArg}, (resolve e as).length = as.length
  | [] => rfl
  | .val d :: r => by simp [resolve, resolve_length (as := r)]
  | .ref d :: r => by simp [resolve, resolve_length (as := r)]
/-- the callee's entry -/
theorem ER.enter {vs : List V} {as : List CArg} (e : ER W Z σ0 H G σ env φ) (c : CARs W G σ vs as) (ha : allRef env as) :
    ER W (Zn H (argF φ as)) (vs.map some) H G (vs.map some) (resolve env as) (argF φ as) where
  len := ⟨by rw [List.length_map, resolve_length, c.length], rfl⟩
  sl := fun k s h => by
    rcases resolve_get h with ⟨d, h1, rfl⟩ | ⟨i, h1, rfl⟩
    · obtain ⟨v, h2, h3⟩ := c.get h1
      exact ⟨v, by rw [List.getElem?_map, h2]; rfl, h3⟩
    · obtain ⟨v, h2, h3⟩ := c.get h1
      obtain ⟨d, hd⟩ := ha.2 i (mem_refs h1)
      have hv : (vs.map some)[k]? = some (some v) := by rw [List.getElem?_map, h2]; rfl
      rw [argF_ref h1]
      rcases hd with hd | hd
      · rw [hd]
        obtain ⟨u, q1, q2⟩ := e.sl i _ hd
        have : some (some u) = some (some v) := q1.symm.trans h3
        cases this
        exact ⟨v, hv, hv, q2⟩
      · rw [hd]
        obtain ⟨u, q1, _, q2⟩ := e.sl i _ hd
        have : some (some u) = some (some v) := q1.symm.trans h3
        cases this
        exact ⟨v, hv, hv, q2⟩
  dis := fun k l hkl => by
    rcases argF_cases (φ := φ) as k with h | ⟨i, h1, h⟩
    · rw [h]; exact Dis.emp.symm
    · rcases argF_cases (φ := φ) as l with q | ⟨j, q1, q⟩
      · rw [q]; exact Dis.emp
      · rw [h, q]
        exact e.dis i j fun z => by
          subst z
          exact hkl (refs_inj ha.1 h1 q1)
  dg := fun k => by
    rcases argF_cases (φ := φ) as k with h | ⟨i, _, h⟩
    · rw [h]; exact Dis.emp
    · rw [h]; exact e.dg i
  sub := fun k => by
    rcases argF_cases (φ := φ) as k with h | ⟨i, _, h⟩
    · rw [h]; exact fun _ _ z => nomatch z
    · rw [h]; exact e.sub i
  gh := e.gh
  zn := fun b h => .inl h
  zs := fun k b h => .inr ⟨k, h⟩
theorem zn_z {as : List CArg} (e : ER W Z σ0 H G σ env φ) : ∀ b, Zn H (argF φ as) b → Z b := fun b h => by
  rcases h with h | ⟨k, h⟩
  · exact e.zn b h
  · rcases argF_cases (φ := φ) as k with q | ⟨i, _, q⟩
    · rw [q] at h; exact absurd rfl h
    · rw [q] at h; exact e.zs i b h
/-- the k-th argument that is slot j -/
def posOf : List CArg → Nat → Option Nat
  | [], _ => none
  | .val _ :: r, j => (posOf r j).map (· + 1)
  | .ref i :: r, j => if i = j then some 0 else (posOf r j).map (· + 1)
theorem posOf_some : ∀ {as : List CArg} {j k : Nat}, posOf as j = some k → as[k]? = some (.ref j)
  | [], _, _, h => by simp [posOf] at h
  | .val _ :: r, j, k, h => by
    simp only [posOf, Option.map_eq_some_iff] at h
    obtain ⟨l, h1, rfl⟩ := h
    simpa using posOf_some h1
  | .ref i :: r, j, k, h => by
    simp only [posOf] at h
    split at h
    · rename_i e
      cases h
      subst e
      rfl
    · simp only [Option.map_eq_some_iff] at h
      obtain ⟨l, h1, rfl⟩ := h
      simpa using posOf_some h1
theorem posOf_none : ∀ {as : List CArg} {j k : Nat}, posOf as j = none → as[k]? ≠ some (.ref j)
  | [], _, _, h => by simp
  | .val _ :: r, j, 0, h => by simp
  | .val _ :: r, j, k + 1, h => by
    simp only [posOf, Option.map_eq_none_iff] at h
    simpa using posOf_none (k := k) h
  | .ref i :: r, j, k, h => by
    simp only [posOf] at h
    split at h
    · cases h
    · rename_i hne
      simp only [Option.map_eq_none_iff] at h
      cases k with
      | zero => simpa using hne
      | succ k => simpa using posOf_none (k := k) h
theorem putBack_length {e : Env} : ∀ {as : List CArg} {os : List Slot}, (putBack e as os).length = e.length
  | [], _ => by simp [putBack]
  | .val _ :: _, [] => by simp [putBack]
  | .ref _ :: _, [] => by simp [putBack]
  | .val _ :: r, _ :: os => by simpa [putBack] using putBack_length (as := r) (os := os)
  | .ref _ :: r, _ :: os => by simpa [putBack] using putBack_length (as := r) (os := os)
theorem putBack_get {e : Env} : ∀ {as : List CArg} {os : List Slot} {j : Nat}, os.length = as.length → (refs as).Nodup →
    (putBack e as os)[j]? = match posOf as j with
      | some k => (e[j]?).map fun _ => upSlot (e[j]?) ((os[k]?).getD .nil)
      | none => e[j]?
  | [], os, j, _, _ => by simp [putBack, posOf]
  | .val _ :: r, [], j, h, _ => by simp at h
  | .ref _ :: r, [], j, h, _ => by simp at h
  | .val _ :: r, o :: os, j, h, n => by
    have ih := putBack_get (e := e) (as := r) (os := os) (j := j) (by simpa using h) n
    simp only [putBack, posOf, ih]
    cases posOf r j <;> simp
  | .ref i :: r, o :: os, j, h, n => by
    have ih := putBack_get (e := e) (as := r) (os := os) (j := j) (by simpa using h) (List.nodup_cons.mp n).2
    simp only [putBack, posOf]
    by_cases hij : i = j
    · subst hij
      rw [if_pos rfl, List.getElem?_set_self']
      have hn : posOf r i = none := by
        cases q : posOf r i with
        | none => rfl
        | some k => exact absurd (mem_refs (posOf_some q)) (List.nodup_cons.mp n).1
      rw [hn] at ih
      rw [ih]
      cases e[i]? <;> simp
    · rw [if_neg hij, List.getElem?_set_ne hij, ih]
      cases posOf r j <;> simp
/-- the parts behind the call -/
def jn (as : List CArg) (ψ φ : Nat → Hp) : Nat → Hp := fun j => match posOf as j with
  | some k => ψ k
  | none => φ j
theorem jn_some {as : List CArg} {ψ φ : Nat → Hp} {j k : Nat} (h : posOf as j = some k) : jn as ψ φ j = ψ k := by unfold jn; rw [h]
theorem jn_none {as : List CArg} {ψ φ : Nat → Hp} {j : Nat} (h : posOf as j = none) : jn as ψ φ j = φ j := by unfold jn; rw [h]
/-- behind the call -/
theorem ER.leave {vs : List V} {as : List CArg} {outs : Env} {ψ : Nat → Hp} (e : ER W Z σ0 H G σ env φ) (c : CARs W G σ vs as) (ha : allRef env as)
    (t : Ext (Zn H (argF φ as)) G H G' H') (r : ER W (Zn H (argF φ as)) (vs.map some) H' G' (vs.map some) outs ψ) :
    ER W Z σ0 H' G' σ (putBack env as outs) (jn as ψ φ) := by
  have hlen : outs.length = as.length := by
    have := r.len.1
    rw [List.length_map, c.length] at this
    exact this.symm
  have zz := zn_z (as := as) e
  have out : ∀ {j b}, posOf as j = none → φ j b ≠ none → ¬ Zn H (argF φ as) b := fun {j b} hp hb z => by
    rcases z with z | ⟨k, z⟩
    · cases q : φ j b with
      | none => exact hb q
      | some o => rw [e.sub j b o q] at z; cases z
    · rcases argF_cases (φ := φ) as k with q | ⟨i, q1, q⟩
      · rw [q] at z; exact z rfl
      · rw [q] at z
        have hij : i ≠ j := fun y => by subst y; exact posOf_none hp q1
        rcases e.dis i j hij b with y | y
        · exact z y
        · exact hb y
  have fresh : ∀ {j b}, posOf as j = none → φ j b ≠ none → ∀ {k}, ψ k b = none := fun {j b} hp hb {k} => by
    cases q : ψ k b with
    | none => rfl
    | some o => exact absurd (r.zs k b (ne_none_of q)) (out hp hb)
  refine ⟨⟨by rw [putBack_length]; exact e.len.1, e.len.2⟩, fun j s hj => ?_, fun j k hjk => ?_, fun j => ?_, fun j => ?_, r.gh, fun b h => zz b (r.zn b h), fun j b hb => ?_⟩
  · rw [putBack_get hlen ha.1] at hj
    cases hp : posOf as j with
    | none =>
      rw [hp] at hj
      rw [jn_none hp]
      exact (e.sl j s hj).mono t.g
    | some k =>
      rw [hp] at hj
      rw [jn_some hp]
      have hk := posOf_some hp
      obtain ⟨v, hv, hc⟩ := c.get hk
      have hko : k < outs.length := by
        rw [hlen]
        exact (List.getElem?_eq_some_iff.mp hk).1
      have ho := List.getElem?_eq_getElem hko
      have hs := r.sl k _ ho
      obtain ⟨d, hd⟩ := ha.2 j (mem_refs hk)
      have hvs : (vs.map some)[k]? = some (some v) := by rw [List.getElem?_map, hv]; rfl
      have hj' : (env[j]?).map (fun _ => upSlot (env[j]?) ((outs[k]?).getD .nil)) = some s := hj
      rw [ho] at hj'
      generalize outs[k] = o at hj' hs
      rcases hd with hd | hd
      · rw [hd] at hj'
        simp only [Option.map_some, Option.some.injEq, Option.getD_some] at hj'
        subst hj'
        cases o with
        | par d' =>
          obtain ⟨u, a, b, c'⟩ := hs
          rw [hvs] at a
          cases a
          exact ⟨v, hc, c'⟩
        | _ => exact trivial
      · rw [hd] at hj'
        simp only [Option.map_some, Option.some.injEq, Option.getD_some] at hj'
        subst hj'
        cases o with
        | par d' =>
          obtain ⟨u, a, b, c'⟩ := hs
          rw [hvs] at a
          cases a
          obtain ⟨u', a1, a2, _⟩ := e.sl j _ hd
          have : some (some u') = some (some v) := a1.symm.trans hc
          cases this
          exact ⟨v, hc, a2, c'⟩
        | _ => exact trivial
  · cases hp : posOf as j with
    | none =>
      rw [jn_none hp]
      cases hq : posOf as k with
      | none =>
        rw [jn_none hq]
        exact e.dis j k hjk
      | some l =>
        rw [jn_some hq]
        intro b
        cases h : φ j b with
        | none => exact .inl rfl
        | some o => exact .inr (fresh hp (ne_none_of h))
    | some l =>
      rw [jn_some hp]
      cases hq : posOf as k with
      | none =>
        rw [jn_none hq]
        intro b
        cases h : φ k b with
        | none => exact .inr rfl
        | some o => exact .inl (fresh hq (ne_none_of h))
      | some m =>
        rw [jn_some hq]
        exact r.dis l m fun z => by
          subst z
          have := (posOf_some hp).symm.trans (posOf_some hq)
          simp at this
          exact hjk this
  · cases hp : posOf as j with
    | some k => rw [jn_some hp]; exact r.dg k
    | none =>
      rw [jn_none hp]
      intro b
      cases h : φ j b with
      | none => exact .inr rfl
      | some o =>
        refine .inl ?_
        cases q : G' b with
        | none => rfl
        | some u =>
          rcases t.gz b u q with y | y
          · rcases e.dg j b with z | z
            · rw [z] at y; cases y
            · rw [z] at h; cases h
          · exact absurd y (out hp (ne_none_of h))
  · cases hp : posOf as j with
    | some k => rw [jn_some hp]; exact r.sub k
    | none =>
      rw [jn_none hp]
      exact fun b o h => t.hz b o (e.sub j b o h) (out hp (ne_none_of h))
  · cases hp : posOf as j with
    | some k => rw [jn_some hp] at hb; exact zz b (r.zs k b hb)
    | none => rw [jn_none hp] at hb; exact e.zs j b hb

/-! ### calls -/
def PurCA (W : Wd) (E : XK) (Xc : XP) (ta : TA) (pa : PCA) : Prop :=
  ∀ Z σ0 H G σ env φ (Q : List V → Hp → Prop) (Q' : List CArg → Env → Prop), ER W Z σ0 H G σ env φ → XOk W Z G H E Xc →
    (∀ vs as H' G' env' φ', Ext Z G H G' H' → ER W Z σ0 H' G' σ env' φ' → CARs W G' σ vs as → Q' as env' → Q vs H') → pa env Q' → ta σ H Q
def cNil : PCA := fun env Q => Q [] env
def cVal (p : PTE) (r : PCA) : PCA := fun env Q => p env fun d e1 => r e1 fun as e2 => Q (.val d :: as) e2
def cRef (i : Nat) (r : PCA) : PCA := fun env Q => (∃ d, env[i]? = some (.own d) ∨ env[i]? = some (.par d)) ∧ r env fun as e2 => Q (.ref i :: as) e2
theorem purca_nil : PurCA W E Xc tNil cNil := fun Z σ0 H G σ env φ Q Q' e x k h => k [] [] H G env φ .refl e trivial h
theorem purca_val {t : TA} {p : PCA} (h1 : PurE W E Xc ta pa) (h2 : PurCA W E Xc t p) : PurCA W E Xc (tCons ta t) (cVal pa p) := by
  intro Z σ0 H G σ env φ Q Q' e x k h
  refine h1 Z σ0 H G σ env φ _ _ e x (fun v1 d1 H1 G1 e1 p1 t1 r1 f1 q1 => ?_) h
  refine h2 Z σ0 H1 G1 σ e1 p1 _ _ r1 (x.ext t1) (fun vs ds H2 G2 e2 p2 t2 r2 f2 q2 => ?_) q1
  exact k (v1 :: vs) (.val d1 :: ds) H2 G2 e2 p2 (t1.trans t2) r2 ⟨f1.mono t2.g, f2⟩ q2
theorem purca_ref {t : TA} {p : PCA} {i : Nat} (h2 : PurCA W E Xc t p) : PurCA W E Xc (tCons (tVar i) t) (cRef i p) := by
  intro Z σ0 H G σ env φ Q Q' e x k ⟨⟨d, hd⟩, h⟩
  obtain ⟨v, hv⟩ : ∃ v, σ[i]? = some (some v) := by
    rcases hd with hd | hd
    · obtain ⟨v, a, _⟩ := e.sl i _ hd
      exact ⟨v, a⟩
    · obtain ⟨v, a, _⟩ := e.sl i _ hd
      exact ⟨v, a⟩
  refine ⟨v, hv, ?_⟩
  refine h2 Z σ0 H G σ env φ _ _ e x (fun vs ds H2 G2 e2 p2 t2 r2 f2 q2 => ?_) h
  exact k (v :: vs) (.ref i :: ds) H2 G2 e2 p2 t2 r2 ⟨hv, f2⟩ q2
def NoX : XP := fun _ _ => False
theorem xok0 : XOk W Z G H E0 NoX := fun _ _ _ _ _ _ _ _ _ _ _ _ h => h.elim
def oCall (ps : PSp) (Xc : XP) (pa : PCA) : PTO := fun env Q => pa env fun as e1 => allRef e1 as ∧ ps (resolve e1 as) (fun s outs => Q s (putBack e1 as outs)) Xc
theorem call_core {ps : PSp} {E' : XK} {Xc' : XP} {t : TA} {pa : PCA} {Q : VK} {Q' : Slot → Env → Prop} (h : PurCA W E Xc t pa)
    (e : ER W Z σ0 H G σ env φ) (x : XOk W Z G H E Xc) (x' : ∀ H' G', Ext Z G H G' H' → XOk W Z G' H' E' Xc') (k : OKOk W Z σ0 G H σ Q Q') (q : oCall ps Xc' pa env Q') : tCall (spOf W ps) [] E' t σ H Q := by
  refine h Z σ0 H G σ env φ _ _ e x (fun vs as H1 G1 e1 p1 t1 r1 c1 q1 => ?_) q
  rw [List.append_nil]
  obtain ⟨ha, q1⟩ := q1
  refine ⟨G1, resolve e1 as, argF p1 as, _, Xc', r1.enter c1 ha, q1, fun v s F H2 G2 outs ψ t2 r2 f2 q2 => ?_, ?_⟩
  · have r3 := r1.leave c1 ha t2 r2
    have zz := zn_z (as := as) r1
    refine k v s F H2 G2 _ _ (t1.trans (t2.weak zz)) r3 ?_ q2
    cases s with
    | frz d => exact f2
    | own d =>
      obtain ⟨a, b, c, d1, d2⟩ := f2
      refine ⟨a, b, fun j => ?_, d1, fun b hb => zz b (d2 b hb)⟩
      cases hp : posOf as j with
      | some l => rw [jn_some hp]; exact c l
      | none =>
        rw [jn_none hp]
        intro y
        cases hy : F y with
        | none => exact .inr rfl
        | some o =>
          refine .inl ?_
          cases hz : p1 j y with
          | none => rfl
          | some u =>
            exfalso
            rcases d2 y (ne_none_of hy) with z | ⟨l, z⟩
            · rw [r1.sub j y u hz] at z; cases z
            · rcases argF_cases (φ := p1) as l with w | ⟨i, w1, w⟩
              · rw [w] at z; exact z rfl
              · rw [w] at z
                have hij : i ≠ j := fun y => by subst y; exact posOf_none hp w1
                rcases r1.dis i j hij y with y' | y'
                · exact z y'
                · rw [y'] at hz; cases hz
    | nil => exact f2
    | par _ => exact f2
  · intro C f d v dx H3 G3 t3 s3 h0 h3 f3 xc
    exact x' H1 G1 t1 C f d v dx H3 G3 (t3.weak (zn_z (as := as) r1)) s3 (zn_z (as := as) r1 _ h0) h3 f3 xc
/-- a callee that raises nothing -/
theorem puro_call0 {ps : PSp} {t : TA} {pa : PCA} (h : PurCA W E Xc t pa) : PurO W E Xc (tCall (spOf W ps) [] E0 t) (oCall ps NoX pa) :=
  fun Z σ0 H G σ env φ Q Q' e x k q => call_core h e x (fun _ _ _ => xok0) k q
theorem puro_callX {ps : PSp} {t : TA} {pa : PCA} (h : PurCA W E Xc t pa) : PurO W E Xc (tCall (spOf W ps) [] E t) (oCall ps Xc pa) :=
  fun Z σ0 H G σ env φ Q Q' e x k q => call_core h e x (fun _ _ t => x.ext t) k q
/-- a value told to all -/
def asD (Q : D → Env → Prop) : Slot → Env → Prop
  | .frz d, e => Q d e
  | .own d, e => d.sol = true ∧ Q d e
  | _, _ => False
def eO (po : PTO) : PTE := fun env Q => po env (asD Q)
theorem pure_o {po : PTO} (h : PurO W E Xc te po) : PurE W E Xc te (eO po) := by
  intro Z σ0 H G σ env φ Q Q' e x k q
  refine h Z σ0 H G σ env φ _ _ e x (fun v s F H1 G1 e1 p1 t1 r1 f1 q1 => ?_) q
  cases s with
  | frz d => exact k v d H1 G1 e1 p1 t1 r1 f1 q1
  | own d =>
    obtain ⟨a, b, c, d1, d2⟩ := f1
    have f := a.freeze q1.1 b
    have t2 : Ext Z G1 H1 (un G1 F) H1 := ⟨un_l, fun x o q => by
      rcases un_cases q with q | ⟨_, q⟩
      · exact .inl q
      · exact .inr (d2 x (ne_none_of q)), fun _ _ q _ => q⟩
    refine k v d H1 (un G1 F) e1 p1 (t1.trans t2) ⟨r1.len, fun i s h => (r1.sl i s h).mono un_l, r1.dis, fun i => (r1.dg i).un (c i).symm, r1.sub, un_sub r1.gh d1, r1.zn, r1.zs⟩ f q1.2
  | nil => exact q1.elim
  | par _ => exact q1.elim
end
end Pu

set_option Elab.async false
set_option linter.all false
set_option maxRecDepth 100000
namespace Pu
open PySem PySem.Spec L2

/-! ### a def from its body -/
def nils (n : Nat) : Env := List.replicate n .nil
def outOf : Slot → Slot
  | .par d => .par d
  | _ => .nil
def outs (n : Nat) (env : Env) : Env := (env.take n).map outOf
/-- what a def's body wants -/
def ends (n : Nat) (Q : Slot → Env → Prop) : PEnds := { nx := fun env => Q (.frz .non) (outs n env), rt := fun s env => Q s (outs n env) }
section
variable {W : Wd} {E : XK} {Xc : XP} {ta tb tc te : TE} {pa pb pc pe : PTE} {tt : TT} {pt : PTT} {ts tu : TS} {ps pu : PTS} {Z : Addr → Prop} {σ0 : L2.St} {H G H' G' : Hp} {σ : L2.St} {env : Env} {φ : Nat → Hp}
theorem start_er {N : List Str} {vs : List V} {as : Env} (e : ER W Z (vs.map some) H G (vs.map some) as φ) (hn : as.length ≤ N.length) :
    ER W Z (L2.start N vs) H G (L2.start N vs) (as ++ nils (N.length - as.length)) φ where
  len := by
    have := e.len.1
    rw [List.length_map] at this
    simp [L2.start, nils, this]
  sl := fun i s h => by
    have hl := e.len.1
    rw [List.length_map] at hl
    by_cases hi : i < as.length
    · rw [List.getElem?_append_left hi] at h
      have q := e.sl i s h
      have e2 : (L2.start N vs)[i]? = (vs.map some)[i]? := by
        unfold L2.start
        rw [List.getElem?_append_left (by simpa [hl] using hi)]
      rw [e2]
      exact q
    · rw [List.getElem?_append_right (by omega)] at h
      have : s = .nil := by
        unfold nils at h
        rw [List.getElem?_replicate] at h
        split at h
        · exact (Option.some.inj h).symm
        · cases h
      subst this
      exact trivial
  dis := e.dis
  dg := e.dg
  sub := e.sub
  gh := e.gh
  zn := e.zn
  zs := e.zs
theorem start_out {N : List Str} {vs : List V} {n : Nat} (hn : vs.length = n) (hN : n ≤ env.length) (e : ER W Z (L2.start N vs) H G σ env φ) :
    ER W Z (vs.map some) H G (vs.map some) (outs n env) φ where
  len := ⟨by simp [outs, hn]; omega, rfl⟩
  sl := fun i s h => by
    unfold outs at h
    rw [List.getElem?_map] at h
    have hi : i < n := by
      by_cases hi : i < n
      · exact hi
      · rw [List.getElem?_eq_none (by simp; omega)] at h
        cases h
    rw [List.getElem?_take_of_lt hi] at h
    cases q : env[i]? with
    | none => rw [q] at h; cases h
    | some t =>
      rw [q] at h
      have h' : outOf t = s := Option.some.inj h
      subst h'
      have r := e.sl i t q
      cases t with
      | par d =>
        obtain ⟨v, a, b, c⟩ := r
        have e2 : (L2.start N vs)[i]? = (vs.map some)[i]? := by
          unfold L2.start
          rw [List.getElem?_append_left (by simpa [hn] using hi)]
        rw [e2] at b
        exact ⟨v, b, b, c⟩
      | _ => exact trivial
  dis := e.dis
  dg := e.dg
  sub := e.sub
  gh := e.gh
  zn := e.zn
  zs := e.zs
/-- the body's own part of a def's proof -/
theorem body_ok {N : List Str} {vs : List V} {Q : VK} {E' : XK} {n : Nat} {as : List Slot} {Q' : Slot → Env → Prop} (hp : PurS W E' Xc ts ps) (hN : n ≤ N.length) (la : as.length = n)
    (e : ER W (Zn H φ) (vs.map some) H G (vs.map some) as φ) (x : XOk W (Zn H φ) G H E' Xc) (hb : ps (ends n Q') (as ++ nils (N.length - as.length)))
    (k : ∀ v s F H' G' outs ψ, Ext (Zn H φ) G H G' H' → ER W (Zn H φ) (vs.map some) H' G' (vs.map some) outs ψ → RR W (Zn H φ) H' G' ψ v F s → Q' s outs → Q v H') :
    ts { nx := fun _ H' => Q .non H', rt := Q } (L2.start N vs) H := by
  have lv : vs.length = n := by
    have := e.len.1
    rw [List.length_map] at this
    omega
  refine hp (Zn H φ) (L2.start N vs) H G (L2.start N vs) _ φ _ (ends n Q') (start_er e (by omega)) x ⟨?_, ?_, fun _ _ _ _ _ _ _ z => z.elim, fun _ _ _ _ _ _ _ z => z.elim⟩ hb
  · intro σ' H' G' env' φ' t r w
    have len : n ≤ env'.length := by
      have h1 := r.len
      simp [L2.start] at h1
      omega
    exact k .non (.frz .non) emp H' G' _ φ' t (start_out lv len r) .non w
  · intro v s F σ' H' G' env' φ' t r f w
    have len : n ≤ env'.length := by
      have h1 := r.len
      simp [L2.start] at h1
      omega
    exact k v s F H' G' _ φ' t (start_out lv len r) f w

/-! ### a def: from its text to its promise -/
/-- one that raises nothing -/
theorem fun_pure0 {P : Program} {w : World} {K : PySem.W.Frag} {mg : Str → Option Value} {base : Heap} {x qual : Str} {st : Stmt} {f : Addr} {fd : FuncData} {N pn : List Str} {k : Nat} {psp : PSp} {rep mono}
    (F : Fun K x qual st f fd) (S : FnScope N pn (defScope st)) (hN : pn.length ≤ N.length) (hl : ∀ as Q Xc, psp as Q Xc → as.length = pn.length)
    (hbody : ∀ (cdv : Value) (A : Around) (outer : List PySem.Env) (s : Shared) (H : Hp) (E : XK), Room k (A.deeper (PyProof.Rows.envOfC qual (defScope st) s.heap.objs.size f cdv)) →
      ∃ t p, PSs (cxOf CX0 P w K mg base N qual (defScope st) f cdv A outer s H E).nox (defBody st) t ∧ PurS ⟨P, w, K, rep, mono⟩ E0 NoX t p ∧ ∀ as Q X', psp as Q X' → p (ends pn.length Q) (as ++ nils (N.length - as.length))) :
    FnOk P w K mg base CX0 (k + 1) f fd pn (spOf ⟨P, w, K, rep, mono⟩ psp) := by
  refine F.ok S (fun vs H Q E h => ?_) (fun cdv A outer s H vs Q E hr h => ?_)
  · obtain ⟨G, as, φ, Q', Xc, e, q, _⟩ := h
    have := e.len.1
    rw [List.length_map, hl _ _ _ q] at this
    exact this
  · obtain ⟨t, p, hs, hp, hb⟩ := hbody cdv A outer s H E hr
    obtain ⟨G, as, φ, Q', Xc, e, q, k, _⟩ := h
    exact ⟨t, hs, body_ok hp hN (hl _ _ _ q) e xok0 (hb _ _ _ q) k⟩
end
end Pu

set_option Elab.async false
set_option linter.all false
set_option maxRecDepth 100000
namespace Pu
open PySem PySem.Spec L2

def wipeE (env : Env) : List Nat → Env
  | [] => env
  | v :: vs => (wipeE env vs).set v .nil
theorem wipeE_length (env : Env) : ∀ vs : List Nat, (wipeE env vs).length = env.length
  | [] => rfl
  | v :: vs => by simp [wipeE, wipeE_length env vs]
theorem wipeE_get {env : Env} {i : Nat} {s : Slot} : ∀ {vs : List Nat}, (wipeE env vs)[i]? = some s → s = .nil ∨ (i ∉ vs ∧ env[i]? = some s)
  | [], h => .inr ⟨by simp, h⟩
  | v :: vs, h => by
    unfold wipeE at h
    by_cases hv : v = i
    · subst hv
      rw [List.getElem?_set_self'] at h
      cases q : (wipeE env vs)[v]? with
      | none => rw [q] at h; cases h
      | some t => rw [q] at h; exact .inl (Option.some.inj h).symm
    · rw [List.getElem?_set_ne hv] at h
      rcases wipeE_get h with h | ⟨h1, h2⟩
      · exact .inl h
      · exact .inr ⟨by simp only [List.mem_cons, not_or]; exact ⟨fun z => hv z.symm, h1⟩, h2⟩
theorem wipe_set {σ σ1 : L2.St} {i : Nat} {v : V} {vs : List Nat} (hi : i ∈ vs) (h : wipe σ1 vs = wipe σ vs) : wipe (σ1.set i (some v)) vs = wipe σ vs := by
  rw [← h]
  clear h
  induction vs with
  | nil => cases hi
  | cons w vs ih =>
    unfold wipe
    by_cases hw : i = w
    · subst hw
      by_cases hm : i ∈ vs
      · rw [ih hm]
      · have : ∀ us : List Nat, i ∉ us → wipe (σ1.set i (some v)) us = (wipe σ1 us).set i (some v) := by
          intro us
          induction us with
          | nil => intro _; rfl
          | cons u us ih2 =>
            intro hu
            simp only [List.mem_cons, not_or] at hu
            unfold wipe
            rw [ih2 hu.2, List.set_comm _ _ hu.1]
        rw [this vs hm, List.set_set]
    · rw [ih (by
        rcases List.mem_cons.mp hi with h | h
        · exact absurd h hw
        · exact h)]
theorem wipe_in {σ : L2.St} {i : Nat} : ∀ {vs : List Nat}, i ∈ vs → (wipe σ vs)[i]? = (σ[i]?).map fun _ => none
  | v :: vs, h => by
    unfold wipe
    by_cases hv : v = i
    · subst hv
      rw [List.getElem?_set_self']
      by_cases hm : v ∈ vs
      · rw [wipe_in hm]; cases σ[v]? <;> rfl
      · rw [wipe_out hm]; rfl
    · rw [List.getElem?_set_ne hv]
      exact wipe_in (by
        rcases List.mem_cons.mp h with h | h
        · exact absurd h.symm hv
        · exact h)
theorem wipe_wipe {σ : L2.St} {vs : List Nat} : wipe (wipe σ vs) vs = wipe σ vs := by
  apply List.ext_getElem?
  intro i
  by_cases hi : i ∈ vs
  · rw [wipe_in hi, wipe_in hi]; cases σ[i]? <;> rfl
  · rw [wipe_out hi]
/-- a target that stores to the slots of vs alone -/
def TgIn (g : TG) (vs : List Nat) : Prop := ∀ (σ0 : L2.St) (v : V) (σ : L2.St) (H : Hp) (Q Q2 : L2.St → Hp → Prop), wipe σ vs = wipe σ0 vs → (∀ σ2, wipe σ2 vs = wipe σ0 vs → Q σ2 H → Q2 σ2 H) → g v σ H Q → g v σ H Q2
def TgsIn (g : TGs) (vs : List Nat) : Prop := ∀ (σ0 : L2.St) (us : List V) (σ : L2.St) (H : Hp) (Q Q2 : L2.St → Hp → Prop), wipe σ vs = wipe σ0 vs → (∀ σ2, wipe σ2 vs = wipe σ0 vs → Q σ2 H → Q2 σ2 H) → g us σ H Q → g us σ H Q2
theorem tgin_name {i : Nat} {vs : List Nat} (hi : i ∈ vs) : TgIn (gName i) vs := fun σ0 v σ H Q Q2 h k q => k _ (wipe_set hi h) q
theorem tgsin_nil {vs : List Nat} : TgsIn gNil vs := fun σ0 us σ H Q Q2 h k ⟨e, q⟩ => ⟨e, k σ h q⟩
theorem tgsin_cons {g : TG} {gs : TGs} {vs : List Nat} (h1 : TgIn g vs) (h2 : TgsIn gs vs) : TgsIn (gCons g gs) vs := fun σ0 us σ H Q Q2 h k ⟨v, r, e, q⟩ =>
  ⟨v, r, e, h1 σ0 v σ H _ _ h (fun σ2 h' q2 => h2 σ0 r σ2 H Q Q2 h' k q2) q⟩
theorem tgin_tup {K : PySem.W.Frag} {n : Nat} {gs : TGs} {vs : List Nat} (h : TgsIn gs vs) : TgIn (gTup K n gs) vs := fun σ0 v σ H Q Q2 hw k ⟨a, xs, e, hs, hl, q⟩ => ⟨a, xs, e, hs, hl, h σ0 xs σ H Q Q2 hw k q⟩

section
variable {W : Wd} {E : XK} {Xc : XP} {ta tb tc te : TE} {pa pb pc pe : PTE} {tt : TT} {pt : PTT} {Z : Addr → Prop} {σ0 : L2.St} {H G H' G' : Hp} {σ : L2.St} {env : Env} {φ : Nat → Hp}
theorem ER.part {σ2 : L2.St} {env2 : Env} (e : ER W Z σ0 H G σ env φ) (l1 : σ2.length = σ.length) (l2 : env2.length = env.length)
    (h : ∀ (i : Nat) s, env2[i]? = some s → s = .nil ∨ (env[i]? = some s ∧ σ2[i]? = σ[i]?)) : ER W Z σ0 H G σ2 env2 φ :=
  ⟨⟨by rw [l1, l2]; exact e.len.1, by rw [l1]; exact e.len.2⟩, fun i s hs => by
    rcases h i s hs with rfl | ⟨h1, h2⟩
    · exact trivial
    · rw [h2]; exact e.sl i s h1, e.dis, e.dg, e.sub, e.gh, e.zn, e.zs⟩
theorem ER.wipe (e : ER W Z σ0 H G σ env φ) (vs : List Nat) : ER W Z σ0 H G (L2.wipe σ vs) (wipeE env vs) φ :=
  e.part (wipe_length _ _) (wipeE_length _ _) fun i s hs => by
    rcases wipeE_get hs with h | ⟨h1, h2⟩
    · exact .inl h
    · exact .inr ⟨h2, wipe_out h1⟩
theorem ER.reWipe {σ2 : L2.St} {vs : List Nat} (e : ER W Z σ0 H G σ2 env φ) (h : L2.wipe σ2 vs = L2.wipe σ vs) : ER W Z σ0 H G (L2.wipe σ vs) (wipeE env vs) φ := by
  rw [← h]; exact e.wipe vs
/-- back to the slots as they were -/
theorem ER.unwipe {vs : List Nat} (e : ER W Z σ0 H G (L2.wipe σ vs) (wipeE env vs) φ) : ER W Z σ0 H G σ (wipeE env vs) φ :=
  e.part (wipe_length _ _).symm rfl fun i s hs => by
    rcases wipeE_get hs with h | ⟨h1, h2⟩
    · exact .inl h
    · exact .inr ⟨hs, (wipe_out h1).symm⟩
/-- an object outside of the zone changes -/
theorem ER.updOut {p : Addr} {o : HO} (e : ER W Z σ0 H G σ env φ) (hz : ¬ Z p) (hg : G p = none) : ER W Z σ0 (upd H p o) G σ env φ where
  len := e.len
  sl := e.sl
  dis := e.dis
  dg := e.dg
  sub := fun i b u h => by
    have : b ≠ p := fun z => by
      subst z
      exact hz (e.zs i b (ne_none_of h))
    rw [upd_ne this]
    exact e.sub i b u h
  gh := fun b u h => by
    have : b ≠ p := fun z => by
      subst z
      rw [hg] at h; cases h
    rw [upd_ne this]
    exact e.gh b u h
  zn := fun b h => by
    by_cases hb : b = p
    · subst hb; rw [upd_same] at h; cases h
    · rw [upd_ne hb] at h; exact e.zn b h
  zs := e.zs
theorem XOk.zone {Z' : Addr → Prop} (x : XOk W Z G H E Xc) (h : ∀ b, Z' b → Z b) : XOk W Z' G H E Xc :=
  fun C f d v dx H' G' t s h0 h1 h2 h3 => x C f d v dx H' G' (t.weak h) s (h _ h0) h1 h2 h3

/-! ### comprehensions -/
def compOk (g : PTG) (tt : PTT) (te : PTE) (vs : List Nat) (Q : Slot → Env → Prop) (ds : List D) (I : Nat → List D → Env → Prop) : Prop := ∀ i acc e, I i acc e →
  (∀ d, ds[i]? = some d → g d e fun e1 => tt e1 fun b e2 => if b = true then te e2 fun y e3 => acc.length < sizeLine ∧ I (i + 1) (acc ++ [y]) (wipeE e3 vs) else I (i + 1) acc (wipeE e2 vs)) ∧ (i = ds.length → Q (.own (.lst acc)) e)
def oComp (pi : PTA) (g : PTG) (tt : PTT) (te : PTE) (vs : List Nat) : PTO := fun env Q => pi env fun ds e1 => ∃ I : Nat → List D → Env → Prop, I 0 [] (wipeE e1 vs) ∧ compOk g tt te vs Q ds I
def tYes' : PTT := fun env Q => Q true env
theorem purt_yes : PurT W E Xc tYes tYes' := fun Z σ0 H G σ env φ Q Q' e x k q => k true H G env φ .refl e q
theorem puro_lc {wi : TI} {pi : PTA} {g : TG} {p : PTG} {vs : List Nat} (hi : PurI W E Xc wi pi) (hg : PurG W g p) (hin : TgIn g vs) (ht : PurT W E Xc tt pt) (he : PurE W E Xc te pe) :
    PurO W E Xc (tLc wi g tt te vs) (oComp pi p pt pe vs) := by
  intro Z σ0 H G σ env φ Q Q' e x k q
  refine hi Z σ0 H G σ env φ _ _ e x (fun J ds H1 G1 e1 p1 t1 r1 it q1 => ?_) q
  obtain ⟨I, I0, st⟩ := q1
  intro Dd hD
  have zD : Z Dd := r1.zn Dd hD
  let Z' : Addr → Prop := fun b => Z b ∧ b ≠ Dd
  have zz : ∀ b, Z' b → Z b := fun b h => h.1
  have hG1 : G1 Dd = none := r1.gh.free hD
  have r1' : ER W Z' σ0 (upd H1 Dd (.lst [])) G1 σ e1 p1 := by
    have r := r1.growH (same_upd (o := .lst []) hD)
    refine ⟨r.len, r.sl, r.dis, r.dg, r.sub, r.gh, fun b h => ⟨r.zn b h, fun z => ?_⟩, fun i b h => ⟨r.zs i b h, fun z => ?_⟩⟩
    · subst z; rw [upd_same] at h; cases h
    · subst z
      exact h ((r1.sub i).free hD)
  let Iv : Nat → Hp → Prop := fun i Hh => ∃ Gg ev pv acc us, Ext Z G1 H1 Gg Hh ∧ Same G1 Gg ∧ Gg Dd = none ∧ Hh Dd = some (.lst us) ∧ FRs W Gg us acc ∧ ER W Z' σ0 Hh Gg (L2.wipe σ vs) (wipeE ev vs) pv ∧
    I i acc (wipeE ev vs)
  refine ⟨fun i m Hh => m = ds.length - i ∧ i ≤ ds.length ∧ Iv i Hh,
    ⟨ds.length, by simp, Nat.zero_le _, G1, e1, p1, [], [], ⟨Same.refl _, fun _ _ h => .inl h, fun b o h hn => same_upd hD b o h⟩, Same.refl _, hG1, upd_same, .nil, r1'.wipe vs, I0⟩, ?_⟩
  rintro i m Hh ⟨rfl, hle, Gg, ev, pv, acc, us, t2, sg, hGd, hHd, fr, r2, q2⟩
  obtain ⟨i1, i2, i3⟩ := it Gg sg
  by_cases hlt : i < ds.length
  · refine .inr ⟨i2 i Hh r2.gh hlt, Iv (i + 1), fun H' h => ⟨ds.length - (i + 1), by omega, rfl, hlt, h⟩, fun y H3 hy => ?_⟩
    have q2 := (st i acc _ q2).1 _ (List.getElem?_eq_getElem hlt)
    obtain ⟨G3, g3, f3⟩ := i3 i ds[i] Hh y H3 r2.gh (List.getElem?_eq_getElem hlt) hy
    obtain ⟨r3, t3⟩ := r2.grow g3
    have nD : ∀ {Ga Ha Gb Hb : Hp}, Ext Z' Ga Ha Gb Hb → Ga Dd = none → Gb Dd = none := fun {Ga Ha Gb Hb} t h => by
      cases z : Gb Dd with
      | none => rfl
      | some u =>
        rcases t.gz Dd u z with w | w
        · rw [h] at w; cases w
        · exact absurd rfl w.2
    have hG3 : G3 Dd = none := nD t3 hGd
    have hH3 : H3 Dd = some (.lst us) := g3.h _ _ hHd
    have fr3 := fr.mono g3.g
    have x3 : XOk W Z' G3 H3 E Xc := ((x.ext t1).ext (t2.trans (t3.weak zz))).zone zz
    refine hin σ y (L2.wipe σ vs) H3 (fun σ2 H2 => ∃ env' φ', ER W Z' σ0 H3 G3 σ2 env' φ' ∧ (pt env' fun b e2 => if b = true then pe e2 fun y e3 => acc.length < sizeLine ∧ I (i + 1) (acc ++ [y]) (wipeE e3 vs) else I (i + 1) acc (wipeE e2 vs))) _ wipe_wipe
      (fun σ2 hw ⟨env', φ', r4, q4⟩ => ⟨hw, ?_⟩) (hg Z' σ0 H3 G3 (L2.wipe σ vs) (wipeE ev vs) pv y ds[i] _ _ r3 f3 (fun σ' env' φ' r q => ⟨env', φ', r, q⟩) q2)
    refine ht Z' σ0 H3 G3 σ2 env' φ' _ _ r4 x3 (fun b H4 G4 e4 p4 t4 r5 q5 => ?_) q4
    have hG4 := nD t4 hG3
    have hH4 : H4 Dd = some (.lst us) := t4.hz _ _ hH3 fun z => z.2 rfl
    have fr4 := fr3.mono t4.g
    have tt4 : Ext Z G1 H1 G4 H4 := (t2.trans (t3.weak zz)).trans (t4.weak zz)
    cases b with
    | false =>
      rw [if_neg Bool.false_ne_true] at q5 ⊢
      exact ⟨G4, e4, p4, acc, us, tt4, (sg.trans t3.g).trans t4.g, hG4, hH4, fr4, r5.reWipe hw, q5⟩
    | true =>
      rw [if_pos rfl] at q5 ⊢
      refine he Z' σ0 H4 G4 σ2 e4 p4 _ _ r5 (x3.ext t4) (fun v d H5 G5 e5 p5 t5 r6 f6 q6 => ?_) q5
      have hG5 := nD t5 hG4
      have hH5 : H5 Dd = some (.lst us) := t5.hz _ _ hH4 fun z => z.2 rfl
      have fr5 := fr4.mono t5.g
      refine ⟨us, hH5, by rw [fr.length]; exact q6.1, G5, e5, p5, acc ++ [d], us ++ [v], (tt4.trans (t5.weak zz)).trans ⟨Same.refl _, fun _ _ h => .inl h, fun b o h hn => ?_⟩, ((sg.trans t3.g).trans t4.g).trans t5.g, hG5, upd_same, fr5.snoc f6, (r6.reWipe hw).updOut (fun z => z.2 rfl) hG5, q6.2⟩
      rw [upd_ne (fun z => hn (by rw [z]; exact zD))]
      exact h
  · refine .inl ⟨i1 i Hh r2.gh (by omega), ?_⟩
    have q2 := (st i acc _ q2).2 (by omega)
    have r3 : ER W Z σ0 Hh Gg σ (wipeE ev vs) pv := by
      have r := r2.unwipe
      exact ⟨r.len, r.sl, r.dis, r.dg, r.sub, r.gh, fun b h => zz b (r.zn b h), fun i b h => zz b (r.zs i b h)⟩
    refine k (.ref Dd) (.own (.lst acc)) (one Dd (.lst us)) Hh Gg (wipeE ev vs) pv (t1.trans t2) r3 ⟨.lst one_same fr, fun b => ?_, fun i b => ?_, fun b o h => ?_, fun b h => ?_⟩ q2
    · by_cases hb : b = Dd
      · subst hb; exact .inl hGd
      · exact .inr (one_ne hb)
    · by_cases hb : b = Dd
      · subst hb
        cases z : pv i b with
        | none => exact .inl rfl
        | some u => exact absurd rfl (r2.zs i b (ne_none_of z)).2
      · exact .inr (one_ne hb)
    · by_cases hb : b = Dd
      · subst hb
        rw [one_same] at h
        rw [hHd]; exact h
      · rw [one_ne hb] at h; cases h
    · by_cases hb : b = Dd
      · subst hb; exact zD
      · exact absurd (one_ne hb) h
end
end Pu

set_option Elab.async false
set_option linter.all false
set_option maxRecDepth 100000
namespace Pu
open PySem PySem.Spec L2

section
variable {W : Wd} {E : XK} {Xc : XP} {ta tb tc te : TE} {pa pb pc pe : PTE} {tt : TT} {pt : PTT} {Z : Addr → Prop} {σ0 : L2.St} {H G H' G' : Hp} {σ : L2.St} {env : Env} {φ : Nat → Hp}
/-! ### + -/
def rPlus (K : PySem.W.Frag) : R2 := fun x y H Q => (rI0 (fun i j => .int (i + j))) x y H Q ∨ (∃ i j, x = .str i ∧ y = .str j ∧ i.length + j.length ≤ sizeLine ∧ Q (.str (i ++ j)) H) ∨ rCat x y H Q ∨ rCatA K x y H Q
theorem op_plus {X : Cx} : OpR X (binaryOp .Add) (rPlus X.K) := op_add.or (op_add_str.or (op_cat.or op_catA))
theorem pr_plus : PurR2 W (rPlus W.K) pAdd := by
  intro G H x y dx dy Q Q' e f1 f2 k h
  cases f1 with
  | int i => cases f2 <;> first | (exact h.elim) | exact .inl ⟨_, _, rfl, rfl, k _ _ G H (Grow.refl e) (.int _) h⟩
  | str i => cases f2 <;> first | (exact h.elim) | exact .inr (.inl ⟨_, _, rfl, rfl, h.1, k _ _ G H (Grow.refl e) (.str _) h.2⟩)
  | @lst a us as ha ta =>
    cases f2 <;> first | (exact h.elim) | skip
    rename_i b ws bs hb tb
    obtain ⟨hl, h⟩ := h
    refine .inr (.inr (.inl ⟨_, _, _, _, rfl, rfl, e _ _ ha, e _ _ hb, by rw [ta.length, tb.length]; exact hl, fun p hp => ?_⟩))
    have g := Grow.new (o := .lst (us ++ ws)) e hp
    exact k _ _ _ _ g (.lst upd_same ((ta.append tb).mono g.g)) h
  | @tup a us as ha ta =>
    cases f2 <;> first | (exact h.elim) | skip
    rename_i b ws bs hb tb
    obtain ⟨hl, h⟩ := h
    refine .inr (.inr (.inr ⟨_, _, _, _, rfl, rfl, sqt_mono e ha, sqt_mono e hb, by rw [ta.length, tb.length]; exact hl, fun z => ?_, fun z z2 => ?_, fun z z2 p hp => ?_⟩))
    · subst z
      cases ta
      exact k _ _ G H (Grow.refl e) (.tup hb tb) h
    · subst z2
      cases tb
      rw [List.append_nil] at h
      exact k _ _ G H (Grow.refl e) (.tup ha ta) h
    · have g := Grow.new (o := .tup (us ++ ws)) e hp
      exact k _ _ _ _ g (.tup (.inl (.inl upd_same)) ((ta.append tb).mono g.g)) h
  | _ => exact h.elim
/-! ### * -/
def rMulS : R2 := fun x y H Q => ∃ z i, x = .str z ∧ y = .int i ∧ (i < 2 ^ 40 ∧ -(2 ^ 40) < i) ∧ z.length * i.toNat ≤ 1000000 ∧ Q (.str (Txt.mul z i)) H
theorem op_mulS {X : Cx} : OpR X (binaryOp .Mult) rMulS := by
  intro pins s σ H x y v u Q I rx ry h
  obtain ⟨z, i, rfl, rfl, ⟨h1, h2⟩, hz, q⟩ := h
  obtain ⟨t, rfl⟩ := rx
  obtain ⟨t', rfl⟩ := ry
  refine PySem.SB.mul ⟨?_, fun a b => ?_, fun a b => ?_⟩ fun t' k => ⟨.str _, H, I.tok k, ⟨t', rfl⟩, q⟩
  · rw [Bool.or_eq_false_iff]
    exact ⟨decide_eq_false (by omega), decide_eq_false (by omega)⟩
  · have hi : 1 ≤ i := by omega
    have e : ((i.toNat : Nat) : Int) = i := Int.toNat_of_nonneg (by omega)
    have hz' : (z.length : Int) * i ≤ 1000000 := by
      have h4 : ((z.length * i.toNat : Nat) : Int) ≤ 1000000 := by omega
      rw [Int.natCast_mul, e] at h4
      exact h4
    have h3 : (z.length : Int) ≤ (2 ^ 63 - 1) / i := by
      rw [Int.le_ediv_iff_mul_le (by omega)]
      omega
    omega
  · have := sizeLine_eq
    exact decide_eq_false (by omega)
def rTimes : R2 := fun x y H Q => rI CMul (fun i j => .int (i * j)) x y H Q ∨ rMulS x y H Q ∨ rRep x y H Q
theorem op_times {X : Cx} : OpR X (binaryOp .Mult) rTimes := op_mul.or (op_mulS.or op_rep)
def pMul : D → D → (D → Prop) → Prop
  | .int i, .int j, Q => CMul i j ∧ Q (.int (i * j))
  | .str z, .int i, Q => (i < 2 ^ 40 ∧ -(2 ^ 40) < i) ∧ z.length * i.toNat ≤ 1000000 ∧ Q (.str (Txt.mul z i))
  | .lst xs, .int i, Q => (-(2 ^ 63) ≤ i ∧ i < 2 ^ 63) ∧ xs.length * i.toNat ≤ sizeLine ∧ Q (.lst (List.replicate i.toNat xs).flatten)
  | _, _, _ => False
theorem frs_rep {us : List V} {ds : List D} (f : FRs W G us ds) : ∀ n : Nat, FRs W G (List.replicate n us).flatten (List.replicate n ds).flatten
  | 0 => .nil
  | n + 1 => by
    rw [List.replicate_succ, List.replicate_succ, List.flatten_cons, List.flatten_cons]
    exact f.append (frs_rep f n)
theorem pr_times : PurR2 W rTimes pMul := by
  intro G H x y dx dy Q Q' e f1 f2 k h
  cases f1 with
  | int i => cases f2 <;> first | (exact h.elim) | exact .inl ⟨_, _, rfl, rfl, h.1, k _ _ G H (Grow.refl e) (.int _) h.2⟩
  | str i => cases f2 <;> first | (exact h.elim) | exact .inr (.inl ⟨_, _, rfl, rfl, h.1, h.2.1, k _ _ G H (Grow.refl e) (.str _) h.2.2⟩)
  | @lst a us as ha ta =>
    cases f2 <;> first | (exact h.elim) | skip
    rename_i i
    obtain ⟨⟨h1, h2⟩, hl, h⟩ := h
    refine .inr (.inr ⟨_, _, _, rfl, rfl, e _ _ ha, h1, h2, by rw [ta.length]; exact hl, fun p hp => ?_⟩)
    have g := Grow.new (o := .lst (List.replicate i.toNat us).flatten) e hp
    exact k _ _ _ _ g (.lst upd_same ((frs_rep ta _).mono g.g)) h
  | _ => exact h.elim
/-! ### slices -/
def cutD {α : Type} (xs : List α) (lo hi : Option Int) : List α := (xs.drop (HT.sIx xs.length 0 lo)).take (HT.sIx xs.length xs.length hi - HT.sIx xs.length 0 lo)
theorem cut_frs {us : List V} {ds : List D} (f : FRs W G us ds) (lo hi : Option Int) : FRs W G (cutV us lo hi) (cutD ds lo hi) := by
  unfold cutV cutD
  rw [f.length]
  exact (f.drop _).take _
def rCut (K : PySem.W.Frag) : V → Option Int → Option Int → Hp → VK → Prop := fun x lo hi H Q => rSlL K x lo hi H Q ∨ rSlS x lo hi H Q ∨ rSlA K x lo hi H Q
theorem SlR.or {X : Cx} {r r' : V → Option Int → Option Int → Hp → VK → Prop} (h : L2.SlR X r) (h' : L2.SlR X r') : L2.SlR X (fun x lo hi H Q => r x lo hi H Q ∨ r' x lo hi H Q) := by
  intro pins s σ H x v vl vu lo hi sl Q I rx hs pl pu q
  rcases q with q | q
  · exact h pins s σ H x v vl vu lo hi sl Q I rx hs pl pu q
  · exact h' pins s σ H x v vl vu lo hi sl Q I rx hs pl pu q
theorem sl_cut {X : Cx} : L2.SlR X (rCut X.K) := SlR.or sl_list (SlR.or sl_str sl_tupA)
def pCut (d : D) (lo hi : Option Int) (Q : D → Prop) : Prop := match d with
  | .lst xs => Q (.lst (cutD xs lo hi))
  | .scr ns => Q (.lst ((cutD ns lo hi).map D.int))
  | .str z => z.length ≤ sizeLine ∧ Q (.str (cutS z lo hi))
  | .tup xs => Q (.tup (cutD xs lo hi))
  | _ => False
def PurR3 (W : Wd) (r : V → Option Int → Option Int → Hp → VK → Prop) (p : D → Option Int → Option Int → (D → Prop) → Prop) : Prop :=
  ∀ G H x dx lo hi (Q : VK) (Q' : D → Prop), Same G H → FR W G x dx → (∀ v d G' H', Grow G H G' H' → FR W G' v d → Q' d → Q v H') → p dx lo hi Q' → r x lo hi H Q
theorem pr_cut : PurR3 W (rCut W.K) pCut := by
  intro G H x dx lo hi Q Q' e f k h
  cases f with
  | @lst a us as ha ta =>
    refine .inl ⟨_, _, rfl, SqL.of (e _ _ ha), fun p hp => ?_⟩
    have g := Grow.new (o := .lst (cutV us lo hi)) e hp
    exact k _ _ _ _ g (.lst upd_same ((cut_frs ta lo hi).mono g.g)) h
  | @scr a ns ha =>
    refine .inl ⟨_, _, rfl, e.seq ha, fun p hp => ?_⟩
    have g := Grow.new (o := .lst (cutV (ns.map V.int) lo hi)) e hp
    have ec : cutV (ns.map V.int) lo hi = (cutD ns lo hi).map V.int := by
      unfold cutV cutD
      rw [List.length_map, List.map_take, List.map_drop]
    refine k _ _ _ _ g (.lst upd_same ?_) h
    rw [ec]
    exact frs_ints _
  | str z => exact .inr (.inl ⟨_, rfl, h.1, k _ _ G H (Grow.refl e) (.str _) h.2⟩)
  | @tup a us as ha ta =>
    refine .inr (.inr ⟨_, _, rfl, sqt_mono e ha, fun z => ?_, fun z p hp => ?_⟩)
    · have : cutD as lo hi = as := by
        unfold cutD
        rw [← ta.length, z.1, z.2, List.drop_zero, Nat.sub_zero, List.take_of_length_le (by rw [ta.length]; exact Nat.le_refl _)]
      have h' : Q' (.tup (cutD as lo hi)) := h
      rw [this] at h'
      exact k _ _ G H (Grow.refl e) (.tup ha ta) h'
    · have g := Grow.new (o := .tup (cutV us lo hi)) e hp
      exact k _ _ _ _ g (.tup (.inl (.inl upd_same)) ((cut_frs ta lo hi).mono g.g)) h
  | _ => exact h.elim
/-- the ends of a slice, looked at -/
abbrev PQO := Env → (Option Int → Prop) → Prop
def PurQO (W : Wd) (E : XK) (Xc : XP) (to : TO) (pq : PQO) : Prop :=
  ∀ Γ H σ env (Q : Option Int → Hp → Prop) (Q' : Option Int → Prop), Vw W Γ H σ env → XV W Γ H E Xc → (∀ b Γ' H', Grow Γ H Γ' H' → Q' b → Q b H') → pq env Q' → to σ H Q
def qNo : PQO := fun _ Q => Q none
def asI (Q : Int → Prop) : D → Prop
  | .int i => Q i
  | _ => False
def qPart (pq : PQE) : PQO := fun env Q => pq env (asI fun i => Q (some i))
theorem purqo_no : PurQO W E Xc tNoPart qNo := fun Γ H σ env Q Q' v x k h => k none Γ H (Grow.refl v.gh) h
theorem purqo_part {pq : PQE} (h : PurQ W E Xc te pq) : PurQO W E Xc (tPart te) (qPart pq) := by
  intro Γ H σ env Q Q' v x k q
  refine h Γ H σ env _ _ v x (fun u d Γ' H' g f q => ?_) q
  cases f <;> first | (exact q.elim) | exact ⟨_, rfl, k _ Γ' H' g q⟩
def qCut (pa : PQE) (pl ph : PQO) : PQE := fun env Q => pa env fun d => pl env fun lo => ph env fun hi => pCut d lo hi Q
theorem purq_cut {pa : PQE} {tl th : TO} {pl ph : PQO} (ha : PurQ W E Xc ta pa) (hl : PurQO W E Xc tl pl) (hh : PurQO W E Xc th ph) : PurQ W E Xc (tSl (rCut W.K) ta tl th) (qCut pa pl ph) := by
  intro Γ H σ env Q Q' v x k q
  refine ha Γ H σ env _ _ v x (fun u d Γ1 H1 g1 f1 q1 => ?_) q
  refine hl Γ1 H1 σ env _ _ (v.grow g1) (x.grow g1) (fun lo Γ2 H2 g2 q2 => ?_) q1
  refine hh Γ2 H2 σ env _ _ (v.grow (g1.trans g2)) (x.grow (g1.trans g2)) (fun hi Γ3 H3 g3 q3 => ?_) q2
  exact pr_cut Γ3 H3 u d lo hi _ _ g3.gh (f1.mono (g2.trans g3).g) (fun v d G4 H4 g4 f4 q4 => k v d G4 H4 (((g1.trans g2).trans g3).trans g4) f4 q4) q3
def eCut (pa : PTE) (pl ph : PQO) : PTE := fun env Q => pa env fun d e1 => pl e1 fun lo => ph e1 fun hi => pCut d lo hi fun r => Q r e1
theorem pure_cut {tl th : TO} {pl ph : PQO} (ha : PurE W E Xc ta pa) (hl : PurQO W E Xc tl pl) (hh : PurQO W E Xc th ph) : PurE W E Xc (tSl (rCut W.K) ta tl th) (eCut pa pl ph) := by
  intro Z σ0 H G σ env φ Q Q' e x k q
  refine ha Z σ0 H G σ env φ _ _ e x (fun u d H1 G1 e1 p1 t1 r1 f1 q1 => ?_) q
  refine hl _ H1 σ e1 _ _ r1.vw ((x.ext t1).view r1) (fun lo Γ2 H2 g2 q2 => ?_) q1
  have r2 := r1.growH g2.h
  have t2 : Ext Z G1 H1 G1 H2 := .growH g2.h
  refine hh _ H2 σ e1 _ _ r2.vw (((x.ext t1).ext t2).view r2) (fun hi Γ3 H3 g3 q3 => ?_) q2
  have r3 := r2.growH g3.h
  refine pr_cut G1 H3 u d lo hi _ _ r3.gh f1 (fun v d G4 H4 g4 f4 q4 => ?_) q3
  obtain ⟨r4, t4⟩ := r3.grow g4
  exact k v d H4 G4 e1 p1 (((t1.trans t2).trans (.growH g3.h)).trans t4) r4 f4 q4
/-! ### texts -/
theorem frs_strs : ∀ {vs : List V} {ds : List D} {ys : List Str}, FRs W G vs ds → ds = ys.map D.str → vs = ys.map V.str
  | _, _, [], .nil, _ => rfl
  | _, _, y :: ys, .cons h t, e => by
    simp only [List.map_cons, List.cons.injEq] at e
    obtain ⟨rfl, e⟩ := e
    cases h
    rw [frs_strs t e]
    rfl
  | _, _, _ :: _, .nil, e => by simp at e
  | _, _, [], .cons _ _, e => by simp at e
/-- methods of texts -/
def isStr : D → Bool
  | .str _ => true
  | _ => false
theorem isStr_of {v : V} {d : D} (f : FR W G v d) (h : isStr d = true) : ∃ a, v = .str a := by
  cases f <;> first | (cases h; done) | exact ⟨_, rfl⟩
def qM1 (p : D → D → (D → Prop) → Prop) (pa pb : PQE) : PQE := fun env Q => pa env fun x => isStr x = true ∧ pb env fun y => p x y Q
def qM0 (p : D → (D → Prop) → Prop) (pa : PQE) : PQE := fun env Q => pa env fun x => isStr x = true ∧ p x Q
theorem purq_m1 {r : V → List V → Hp → VK → Prop} {p : D → D → (D → Prop) → Prop} {pa pb : PQE} (hr : PurR2 W (fun x y => r x [y]) p) (ha : PurQ W E Xc ta pa) (hb : PurQ W E Xc tb pb) : PurQ W E Xc (tM1 r ta tb) (qM1 p pa pb) := by
  intro Γ H σ env Q Q' v x k h
  refine ha Γ H σ env _ _ v x (fun v1 d1 G1 H1 g1 f1 q1 => ?_) h
  refine ⟨isStr_of f1 q1.1, hb G1 H1 σ env _ _ (v.grow g1) (x.grow g1) (fun v2 d2 G2 H2 g2 f2 q2 => ?_) q1.2⟩
  exact hr G2 H2 v1 v2 d1 d2 _ _ g2.gh (f1.mono g2.g) f2 (fun v3 d3 G3 H3 g3 f3 q3 => k v3 d3 G3 H3 ((g1.trans g2).trans g3) f3 q3) q2
theorem purq_m0 {r : V → List V → Hp → VK → Prop} {p : D → (D → Prop) → Prop} {pa : PQE} (hr : PurR1 W (fun x => r x []) p) (ha : PurQ W E Xc ta pa) : PurQ W E Xc (tM0 r ta) (qM0 p pa) := by
  intro Γ H σ env Q Q' v x k h
  refine ha Γ H σ env _ _ v x (fun v1 d1 G1 H1 g1 f1 q1 => ?_) h
  exact ⟨isStr_of f1 q1.1, hr G1 H1 v1 d1 _ _ g1.gh f1 (fun v3 d3 G3 H3 g3 f3 q3 => k v3 d3 G3 H3 (g1.trans g3) f3 q3) q1.2⟩
def eM1 (p : D → D → (D → Prop) → Prop) (pa pb : PTE) : PTE := fun env Q => pa env fun x e1 => isStr x = true ∧ pb e1 fun y e2 => p x y fun d => Q d e2
def eM0 (p : D → (D → Prop) → Prop) (pa : PTE) : PTE := fun env Q => pa env fun x e1 => isStr x = true ∧ p x fun d => Q d e1
theorem pure_m1 {r : V → List V → Hp → VK → Prop} {p : D → D → (D → Prop) → Prop} (hr : PurR2 W (fun x y => r x [y]) p) (ha : PurE W E Xc ta pa) (hb : PurE W E Xc tb pb) : PurE W E Xc (tM1 r ta tb) (eM1 p pa pb) := by
  intro Z σ0 H G σ env φ Q Q' e x k h
  refine ha Z σ0 H G σ env φ _ _ e x (fun v1 d1 H1 G1 e1 p1 t1 r1 f1 q1 => ⟨isStr_of f1 q1.1, ?_⟩) h
  refine hb Z σ0 H1 G1 σ e1 p1 _ _ r1 (x.ext t1) (fun v2 d2 H2 G2 e2 p2 t2 r2 f2 q2 => ?_) q1.2
  refine hr G2 H2 v1 v2 d1 d2 _ _ r2.gh (f1.mono t2.g) f2 (fun v3 d3 G3 H3 g3 f3 q3 => ?_) q2
  obtain ⟨r3, t3⟩ := r2.grow g3
  exact k v3 d3 H3 G3 e2 p2 ((t1.trans t2).trans t3) r3 f3 q3
theorem pure_m0 {r : V → List V → Hp → VK → Prop} {p : D → (D → Prop) → Prop} (hr : PurR1 W (fun x => r x []) p) (ha : PurE W E Xc ta pa) : PurE W E Xc (tM0 r ta) (eM0 p pa) := by
  intro Z σ0 H G σ env φ Q Q' e x k h
  refine ha Z σ0 H G σ env φ _ _ e x (fun v1 d1 H1 G1 e1 p1 t1 r1 f1 q1 => ⟨isStr_of f1 q1.1, ?_⟩) h
  refine hr G1 H1 v1 d1 _ _ r1.gh f1 (fun v3 d3 G3 H3 g3 f3 q3 => ?_) q1.2
  obtain ⟨r3, t3⟩ := r1.grow g3
  exact k v3 d3 H3 G3 e1 p1 (t1.trans t3) r3 f3 q3
/-- the texts of a list -/
def strsOf : List D → Option (List Str)
  | [] => some []
  | .str x :: r => (strsOf r).map (x :: ·)
  | _ => none
theorem strsOf_map (ys : List Str) : strsOf (ys.map D.str) = some ys := by
  induction ys with
  | nil => rfl
  | cons y ys ih => simp [strsOf, ih]
theorem of_strsOf : ∀ {ds : List D} {ys : List Str}, strsOf ds = some ys → ds = ys.map D.str
  | [], ys, h => by
    simp [strsOf] at h
    subst h
    rfl
  | .str x :: r, ys, h => by
    simp only [strsOf, Option.map_eq_some_iff] at h
    obtain ⟨zs, h1, rfl⟩ := h
    rw [of_strsOf h1]
    rfl
  | .non :: _, _, h => by simp [strsOf] at h
  | .bl _ :: _, _, h => by simp [strsOf] at h
  | .int _ :: _, _, h => by simp [strsOf] at h
  | .tup _ :: _, _, h => by simp [strsOf] at h
  | .lst _ :: _, _, h => by simp [strsOf] at h
  | .dct _ _ :: _, _, h => by simp [strsOf] at h
  | .hdl _ _ :: _, _, h => by simp [strsOf] at h
  | .cls _ :: _, _, h => by simp [strsOf] at h
  | .ty _ :: _, _, h => by simp [strsOf] at h
  | .scr _ :: _, _, h => by simp [strsOf] at h
  | .exc _ _ _ _ :: _, _, h => by simp [strsOf] at h
def joinOk (a : Str) (ys : List Str) : Prop := (ys.map (·.length)).sum + ys.length * a.length ≤ 16777216
def pJoin : D → D → (D → Prop) → Prop
  | .str a, .lst ds, Q => match strsOf ds with
    | some ys => joinOk a ys ∧ Q (.str (Txt.join a ys))
    | none => False
  | .str a, .tup ds, Q => match strsOf ds with
    | some ys => joinOk a ys ∧ Q (.str (Txt.join a ys))
    | none => False
  | _, _, _ => False
theorem pr_join : PurR2 W (fun x y => (fun (x : V) (xs : List V) (H : Hp) (Q : VK) => ∃ a p, ∃ ys : List Str, x = .str a ∧ xs = [.ref p] ∧ (SqL W.K H p (ys.map V.str) ∨ SqT W.K H p (ys.map V.str)) ∧
    (ys.map (·.length)).sum + ys.length * a.length ≤ 16777216 ∧ Q (.str (Txt.join a ys)) H) x [y]) pJoin := by
  intro G H x y dx dy Q Q' e f1 f2 k h
  cases f1 <;> first | (exact h.elim) | skip
  cases f2 <;> first | (exact h.elim) | skip
  · rename_i a p us ds hs t
    simp only [pJoin] at h
    split at h
    · rename_i ys hy
      have := frs_strs t (of_strsOf hy)
      subst this
      exact ⟨_, _, ys, rfl, rfl, .inr (sqt_mono e hs), h.1, k _ _ G H (Grow.refl e) (.str _) h.2⟩
    · exact h.elim
  · rename_i a p us ds hs t
    simp only [pJoin] at h
    split at h
    · rename_i ys hy
      have := frs_strs t (of_strsOf hy)
      subst this
      exact ⟨_, _, ys, rfl, rfl, .inl (SqL.of (e _ _ hs)), h.1, k _ _ G H (Grow.refl e) (.str _) h.2⟩
    · exact h.elim
/-! ### lists that change -/
def asL : Slot → Option (List D)
  | .own (.lst xs) => some xs
  | .par (.lst xs) => some xs
  | _ => none
def putL (ys : List D) : Slot → Slot
  | .own _ => .own (.lst ys)
  | .par _ => .par (.lst ys)
  | s => s
theorem ER.mutL {i : Nat} {s : Slot} {xs : List D} (e : ER W Z σ0 H G σ env φ) (h : env[i]? = some s) (hs : asL s = some xs) :
    ∃ a vs, σ[i]? = some (some (.ref a)) ∧ H a = some (.lst vs) ∧ FRs W G vs xs ∧ ∀ us ys, FRs W G us ys →
      Ext Z G H G (upd H a (.lst us)) ∧ ER W Z σ0 (upd H a (.lst us)) G σ (env.set i (putL ys s)) (fun j => if j = i then one a (.lst us) else φ j) := by
  have key : ∃ a vs, σ[i]? = some (some (.ref a)) ∧ φ i a = some (.lst vs) ∧ FRs W G vs xs ∧ ∀ us ys, FRs W G us ys → SlR W G (σ0[i]?) (σ[i]?) (one a (.lst us)) (putL ys s) := by
    have q := e.sl i s h
    cases s with
    | nil => cases hs
    | frz _ => cases hs
    | own d =>
      cases d <;> first | (cases hs; done) | skip
      cases hs
      obtain ⟨v, a, b⟩ := q
      cases b with
      | @lst p vs _ h1 h2 => exact ⟨p, vs, a, h1, h2, fun us ys f => ⟨_, a, .lst one_same f⟩⟩
    | par d =>
      cases d <;> first | (cases hs; done) | skip
      cases hs
      obtain ⟨v, a, c, b⟩ := q
      cases b with
      | @lst p vs _ h1 h2 => exact ⟨p, vs, a, h1, h2, fun us ys f => ⟨_, a, c, .lst one_same f⟩⟩
  obtain ⟨a, vs, h1, h2, h3, h4⟩ := key
  have hH := e.sub i a _ h2
  have za : Z a := e.zs i a (ne_none_of h2)
  have ga : G a = none := by
    rcases e.dg i a with z | z
    · exact z
    · rw [z] at h2; cases h2
  have pa : ∀ j, j ≠ i → φ j a = none := fun j hj => by
    rcases e.dis j i hj a with z | z
    · exact z
    · rw [z] at h2; cases h2
  refine ⟨a, vs, h1, hH, h3, fun us ys f => ⟨⟨Same.refl _, fun _ _ q => .inl q, fun b o q hn => ?_⟩, ?_⟩⟩
  · rw [upd_ne (fun z => hn (by rw [z]; exact za))]
    exact q
  · refine ⟨⟨by simp [e.len.1], e.len.2⟩, fun j t hj => ?_, fun j k hjk => ?_, fun j => ?_, fun j => ?_, fun b o q => ?_, fun b q => ?_, fun j b q => ?_⟩
    · by_cases hji : j = i
      · subst hji
        have ht : t = putL ys s := by
          rw [List.getElem?_set_self', h] at hj
          exact (Option.some.inj hj).symm
        subst ht
        simp only [if_pos]
        exact h4 us ys f
      · rw [List.getElem?_set_ne (Ne.symm hji)] at hj
        simp only [if_neg hji]
        exact e.sl j t hj
    · have d1 : ∀ m, m ≠ i → Dis (φ m) (one a (.lst us)) := fun m hm b => by
        by_cases hb : b = a
        · subst hb; exact .inl (pa m hm)
        · exact .inr (one_ne hb)
      by_cases hj : j = i
      · by_cases hk : k = i
        · exact absurd (hj.trans hk.symm) hjk
        · simp only [if_pos hj, if_neg hk]
          exact (d1 k hk).symm
      · by_cases hk : k = i
        · simp only [if_neg hj, if_pos hk]
          exact d1 j hj
        · simp only [if_neg hj, if_neg hk]
          exact e.dis j k hjk
    · by_cases hj : j = i
      · simp only [if_pos hj]
        intro b
        by_cases hb : b = a
        · subst hb; exact .inl ga
        · exact .inr (one_ne hb)
      · simp only [if_neg hj]; exact e.dg j
    · by_cases hj : j = i
      · simp only [if_pos hj]
        intro b o q
        by_cases hb : b = a
        · subst hb
          rw [one_same] at q
          rw [upd_same]; exact q
        · rw [one_ne hb] at q; cases q
      · simp only [if_neg hj]
        intro b o q
        have : b ≠ a := fun z => by
          subst z
          rw [pa j hj] at q; cases q
        rw [upd_ne this]
        exact e.sub j b o q
    · have : b ≠ a := fun z => by
        subst z
        rw [ga] at q; cases q
      rw [upd_ne this]
      exact e.gh b o q
    · by_cases hb : b = a
      · subst hb; exact za
      · rw [upd_ne hb] at q; exact e.zn b q
    · by_cases hj : j = i
      · simp only [if_pos hj] at q
        by_cases hb : b = a
        · subst hb; exact za
        · exact absurd (one_ne hb) q
      · simp only [if_neg hj] at q; exact e.zs j b q
theorem ER.listAt {i : Nat} {s : Slot} {xs : List D} (e : ER W Z σ0 H G σ env φ) (h : env[i]? = some s) (hs : asL s = some xs) : ∃ a vs, σ[i]? = some (some (.ref a)) ∧ H a = some (.lst vs) := by
  obtain ⟨a, vs, h1, h2, _⟩ := e.mutL h hs
  exact ⟨a, vs, h1, h2⟩
/-- look at slot i's list behind the arguments: the same object -/
def sApp (i : Nat) (pe : PTE) : PTS := fun L env => (∃ s xs, env[i]? = some s ∧ asL s = some xs) ∧ pe env fun d e1 => ∃ s xs, e1[i]? = some s ∧ asL s = some xs ∧ xs.length < sizeLine ∧ L.nx (e1.set i (putL (xs ++ [d]) s))
theorem purs_app {i : Nat} (h : PurE W E Xc te pe) : PurS W E Xc (tDrop (tBM W.K "list" rAppend (tVar i) (tCons te tNil))) (sApp i pe) := by
  intro Z σ0 H G σ env φ L L' e x k ⟨⟨s, xs, hs, hx⟩, q⟩
  obtain ⟨a, vs, h1, h2⟩ := e.listAt hs hx
  refine ⟨.ref a, h1, .inl ⟨rfl, vs, SqL.of h2⟩, ?_⟩
  refine h Z σ0 H G σ env φ _ _ e x (fun v d H1 G1 e1 p1 t1 r1 f1 q1 => ?_) q
  obtain ⟨s', xs', hs', hx', hl, q1⟩ := q1
  obtain ⟨a', vs', h1', h2', h3', h4'⟩ := r1.mutL hs' hx'
  rw [h1] at h1'
  cases h1'
  obtain ⟨t2, r2⟩ := h4' (vs' ++ [v]) (xs' ++ [d]) (h3'.snoc f1)
  exact ⟨a, vs', v, rfl, rfl, h2', by rw [h3'.length]; exact hl, k.nx _ _ _ _ _ (t1.trans t2) r2 q1⟩
/-- xs.extend(a list) -/
def sExt (i : Nat) (pe : PTE) : PTS := fun L env => (∃ s xs, env[i]? = some s ∧ asL s = some xs) ∧ pe env fun d e1 => match d with
  | .lst ys => ∃ s xs, e1[i]? = some s ∧ asL s = some xs ∧ xs.length + ys.length ≤ sizeLine ∧ L.nx (e1.set i (putL (xs ++ ys) s))
  | _ => False
theorem purs_ext {i : Nat} (h : PurE W E Xc te pe) : PurS W E Xc (tDrop (tBM W.K "list" rExtend (tVar i) (tCons te tNil))) (sExt i pe) := by
  intro Z σ0 H G σ env φ L L' e x k ⟨⟨s, xs, hs, hx⟩, q⟩
  obtain ⟨a, vs, h1, h2⟩ := e.listAt hs hx
  refine ⟨.ref a, h1, .inl ⟨rfl, vs, SqL.of h2⟩, ?_⟩
  refine h Z σ0 H G σ env φ _ _ e x (fun v d H1 G1 e1 p1 t1 r1 f1 q1 => ?_) q
  cases f1 <;> first | (exact q1.elim) | skip
  rename_i b us ys hb tb
  obtain ⟨s', xs', hs', hx', hl, q1⟩ := q1
  obtain ⟨a', vs', h1', h2', h3', h4'⟩ := r1.mutL hs' hx'
  rw [h1] at h1'
  cases h1'
  obtain ⟨t2, r2⟩ := h4' (vs' ++ us) (xs' ++ ys) (h3'.append tb)
  exact ⟨a, b, vs', us, rfl, rfl, h2', r1.gh _ _ hb, by rw [h3'.length, tb.length]; exact hl, k.nx _ _ _ _ _ (t1.trans t2) r2 q1⟩
/-- xs.pop() as a value -/
def ePop (i : Nat) : PTE := fun env Q => ∃ s xs d, env[i]? = some s ∧ asL s = some xs ∧ xs[xs.length - 1]? = some d ∧ Q d (env.set i (putL xs.dropLast s))
theorem FRs.dropLast : ∀ {vs : List V} {ds : List D}, FRs W G vs ds → FRs W G vs.dropLast ds.dropLast := fun {vs ds} f => by
  rw [List.dropLast_eq_take, List.dropLast_eq_take, f.length]
  exact f.take _
theorem pure_pop {i : Nat} : PurE W E Xc (tBM0 W.K "list" rPop (tVar i)) (ePop i) := by
  intro Z σ0 H G σ env φ Q Q' e x k ⟨s, xs, d, hs, hx, hd, q⟩
  obtain ⟨a, vs, h1, h2, h3, h4⟩ := e.mutL hs hx
  obtain ⟨v, hv, fv⟩ := h3.get hd
  obtain ⟨t2, r2⟩ := h4 _ _ h3.dropLast
  exact ⟨.ref a, h1, .inl ⟨rfl, vs, SqL.of h2⟩, a, vs, v, rfl, rfl, h2, by rw [h3.length]; exact hv, k v d _ _ _ _ t2 r2 fv q⟩
/-- xs[i] = e -/
def sSetI (i : Nat) (pe pj : PTE) : PTS := fun L env => pe env fun d e1 => (∃ s xs, e1[i]? = some s ∧ asL s = some xs) ∧ pj e1 fun z e2 => match z with
  | .int k => ∃ s xs j, e2[i]? = some s ∧ asL s = some xs ∧ ixN xs.length k = some j ∧ L.nx (e2.set i (putL (xs.set j d) s))
  | _ => False
theorem purs_setI {i : Nat} {pj : PTE} (h : PurE W E Xc te pe) (hj : PurE W E Xc tb pj) : PurS W E Xc (tAsg te (gSub (tVar i) tb rSetL)) (sSetI i pe pj) := by
  intro Z σ0 H G σ env φ L L' e x k q
  refine h Z σ0 H G σ env φ _ _ e x (fun v d H1 G1 e1 p1 t1 r1 f1 q1 => ?_) q
  obtain ⟨⟨s, xs, hs, hx⟩, q1⟩ := q1
  obtain ⟨a, vs, h1, h2⟩ := r1.listAt hs hx
  refine ⟨.ref a, h1, ?_⟩
  refine hj Z σ0 H1 G1 σ e1 p1 _ _ r1 (x.ext t1) (fun u z H2 G2 e2 p2 t2 r2 f2 q2 => ?_) q1
  cases f2 <;> first | (exact q2.elim) | skip
  obtain ⟨s', xs', j, hs', hx', hij, q2⟩ := q2
  obtain ⟨a', vs', h1', h2', h3', h4'⟩ := r2.mutL hs' hx'
  rw [h1] at h1'
  cases h1'
  obtain ⟨t3, r3⟩ := h4' (vs'.set j v) (xs'.set j d) (FRs.set (f1.mono t2.g) j h3')
  exact ⟨a, vs', _, j, rfl, rfl, h2', by rw [h3'.length]; exact hij, k.nx _ _ _ _ _ ((t1.trans t2).trans t3) r3 q2⟩
end
end Pu

set_option Elab.async false
set_option linter.all false
set_option maxRecDepth 100000
namespace PySem.W
open PySem PySem.Spec PyProof.Rows
theorem method_own {prog : Program} {w : World} {A : Around} {E : Value → Shared → Prop} {s : Shared} {K : Frag} {C0 : Addr} {name : Str} {v : Value} {pl : Sem Bool} {Q : Value × List Value → Shared → Prop} (X : K.In s.heap)
    (ho : nsIn K cStatics "thirdparty.any" = some none) (ht : typeIn K (.ref C0) = some (.type "type")) (e : findCls K (.ref C0) (.type "type") name = some (.val v)) (hh : handedIn v = true)
    (h : Q (v, []) { s with toks := s.toks + 1 }) : wpAny (model prog w) A (getMethod (.ref C0) name pl) Q E s := by
  have L0 : Looks (model prog w) s.heap (typeOf (.ref C0)) (.type "type") := looks_typeIn X ht
  have hg : findIn K (.type "type") "__getattribute__" = some (some (.builtin "type.__getattribute__")) := type_tga
  unfold getMethod specialOf
  refine wpAny_bind (wpAny_bind (L0.here ((looks_findIn X hg).here ?_)))
  dsimp only
  rw [if_pos canon_tga]
  refine wpAny_bind (wpAny_mono (Q := fun v => Q (v, [])) (E := E) ?_ (fun _ _ z => wpAny_pure z) fun _ _ z => z)
  refine cls_open X (looks_opaque X ho) L0 hg (looks_hook X (r := none) (by rfl)) (by show subIn K _ _ = _; rfl) e
    (wpAny_pure (by show wpAny _ _ (handedOut v) _ _ _; rw [handedOut_of hh]; exact wpAny_pure h))
end PySem.W
namespace Pu
open PySem PySem.Spec L2
/-! ### an error class whose __init__ calls its base's and stores one attribute -/
section
variable {X : Cx}
theorem pe_baseinit {C0 : Addr} {x : Str} {ta : TA} {e : Expr} {es : List Expr} {p1 p2 pos : Pos} {pl : Sem Bool} (hg : Gl X x) (hm : X.mg x = some (.ref C0)) (ho : PySem.W.nsIn X.K cStatics "thirdparty.any" = some none) (ht : PySem.W.typeIn X.K (.ref C0) = some (.type "type"))
    (vV : PySem.W.findCls X.K (.ref C0) (.type "type") "__init__" = some (.val (.builtin "ValueError.__init__"))) (ha : PA X (e :: es) ta) (hdb : (x == ("__debug__" : Str)) = false := by decide)
    (hc : eval (.Call (.Attribute (.Name x p1) "__init__" p2) (e :: es) [] pos) X.env = (do
      let ov ← eval (.Name x p1) X.env
      standAt p2.atName
      let (f, first) ← holding [ov] (getMethod ov "__init__" pl)
      callWith pos f first (backTo pos (starEach (e :: es) X.env)) (backToKw pos (keywordEach [] X.env))) := by rfl)
    (he : starEach (e :: es) X.env = (false, eval e X.env) :: starEach es X.env := by rfl) (hpl : (backTo pos (starEach es X.env)).any (·.1) = false := by rfl) :
    PE X (.Call (.Attribute (.Name x p1) "__init__" p2) (e :: es) [] pos) (tVeI X.K ta) := by
  refine ⟨fun pins s σ H Q I h => ?_⟩
  refine PySem.W.methodCall_KW (ld_glob I hg hm ?_ hdb) hc
  refine PySem.W.method_own I.kIn ho ht vV (by decide +kernel) ?_
  show wpAny _ _ (callWith pos (Value.builtin "ValueError.__init__") [] (backTo pos (starEach (e :: es) X.env)) []) _ _ _
  refine PyProof.Rows.callWith_method1 (thn (ha.run pos pins _ σ H _ (I.tok _) h) fun us s1 ⟨vs, H1, I1, r1, a, C, ws, ev, hl, T, ea, q⟩ => ?_) he hpl
  subst ev
  cases r1 with
  | @cons _ u0 _ ur ra rw' =>
    obtain rfl : u0 = Value.ref a := ra
    have hlen : ur.length ≤ sizeLine := by
      rw [← Paired.length rw', sizeLine_eq]
      omega
    exact oinit_ok T I1 ea hlen fun s' J => ⟨.non, H1, J, rfl, q⟩
end
/-- what __init__ does: the attribute f is the argument -/
def spInit (f : Str) : Sp := fun vs H Q _ => ∃ (a C : Addr) (v : V), vs = [.ref a, v] ∧ H a = some (exo a C none) ∧ ∃ K : PySem.W.Frag, OexC K C ∧ PySem.W.findIn K (.ref C) f = some none ∧
  ∀ dx, H dx = none → dx ≠ a → Q .non (upd (upd H dx (exd dx [(f, v)])) a (exo a C (some dx)))
def spInitK (K : PySem.W.Frag) (C : Addr) (f : Str) : Sp := fun vs H Q _ => ∃ (a : Addr) (v : V), vs = [.ref a, v] ∧ H a = some (exo a C none) ∧
  ∀ dx, H dx = none → dx ≠ a → Q .non (upd (upd H dx (exd dx [(f, v)])) a (exo a C (some dx)))
/-- what the written part says of the class x at C (its __init__ at fI, its base y at C0) -/
structure ErrC (K : PySem.W.Frag) (mg : Str → Option Value) (C fI C0 : Addr) (x y f : Str) : Prop where
  gC : mg x = some (.ref C)
  g0 : mg y = some (.ref C0)
  oex : OexC K C
  ho : PySem.W.nsIn K cStatics "thirdparty.any" = some none
  t0 : PySem.W.typeIn K (.ref C0) = some (.type "type")
  vV : PySem.W.findCls K (.ref C0) (.type "type") "__init__" = some (.val (.builtin "ValueError.__init__"))
  no : PySem.W.findIn K (.ref C) f = some none
  iC : PySem.W.findIn K (.ref C) "__init__" = some (some (.ref fI))
  tI : PySem.W.typeIn K (.ref fI) = some (.type "function")
  xf : XfC K C
  ie : ExcC K C
  te : PySem.W.exmOne K (.ref C) (.ref C) = some true
/-- the text of such an __init__ -/
structure InitS (st : Stmt) (y f msg : Str) : Prop where
  body : ∃ p1 p2 p3 p4 p5 p6 p7 p8 p9 p10 k z1 z2, defBody st = [.Expr (.Call (.Attribute (.Name y p1) "__init__" p2) [.Name "self" p3, .Constant (.str msg) k p4] [] p5) p6, .Assign [.Attribute (.Name "self" p7) f p8] (.Name z1 p9) p10] ∧ z2 = z1
section
variable {P : Program} {w : World} {K : PySem.W.Frag} {mg : Str → Option Value} {base : Heap} {C fI C0 : Addr} {x y f : Str}
theorem pure_init (T : ErrC K mg C fI C0 x y f) {msg : Str} (vs : List V) (H : Hp) (Q : VK) (E : XK) (h : spInitK K C f vs H Q E) {N : List Str} (hN : N.length = 2) :
    (tSeq (tDrop (tVeI K (tCons (tVar 0) (tCons (tC (.str msg)) tNil)))) (tOst K f (tVar 0) (tVar 1))) { nx := fun _ H' => Q .non H', rt := Q } (L2.start N vs) H := by
  obtain ⟨a, v, rfl, ha, k⟩ := h
  have e : L2.start N [.ref a, v] = [some (.ref a), some v] := by
    unfold L2.start
    rw [hN]
    rfl
  rw [e]
  refine ⟨_, rfl, a, C, [.str msg], rfl, by show 1 ≤ 1000; decide, T.oex, ha, ?_⟩
  exact ⟨_, rfl, _, rfl, a, C, rfl, T.oex, T.no, .inl ⟨ha, fun dx n ne => k dx n ne⟩⟩
end
/-- raise C(e) -/
def sRaise (Xc : XP) (C : Addr) (f : Str) (pe : PTE) : PTS := fun _ env => pe env fun d _ => Xc C [(f, d)]
section
variable {W : Wd} {E : XK} {Xc : XP} {te : TE} {pe : PTE} {Z : Addr → Prop} {σ0 : L2.St} {H G H' G' : Hp} {σ : L2.St} {env : Env} {φ : Nat → Hp}
theorem purs_raise {C : Addr} {f : Str} (h : PurE W E Xc te pe) : PurS W E Xc (fun _ σ H => tMkO C (spInitK W.K C f) [] (tCons te tNil) σ H fun cls d H' => E cls d H') (sRaise Xc C f pe) := by
  intro Z σ0 H G σ env φ D D' e x k q
  refine h Z σ0 H G σ env φ _ _ e x (fun v d H1 G1 e1 p1 t1 r1 f1 q1 => ?_) q
  refine ⟨by show 1 ≤ 1000; decide, fun a ha => ?_⟩
  refine ⟨a, v, rfl, upd_same, fun dx hdx hne => ⟨rfl, dx, [(f, v)], upd_same, ?_, ?_, ?_⟩⟩
  · rw [upd_ne hne, upd_same]
  · rw [upd_ne hne] at hdx
    exact hdx
  · have hd1 : H1 dx = none := by
      rw [upd_ne hne] at hdx
      exact hdx
    have eq : upd (del (upd (upd (upd H1 a (exo a C none)) dx (exd dx [(f, v)])) a (exo a C (some dx))) a) dx (.xd [(f, v)]) = upd H1 dx (.xd [(f, v)]) := by
      funext b
      by_cases hb : b = dx
      · subst hb; rw [upd_same, upd_same]
      · rw [upd_ne hb, upd_ne hb]
        by_cases hba : b = a
        · subst hba; rw [del_same, ha]
        · rw [del_ne hba, upd_ne hba, upd_ne hb, upd_ne hba]
    rw [eq]
    have sm : Same H1 (upd H1 dx (.xd [(f, v)])) := same_upd hd1
    exact x C f d v dx _ G1 (t1.trans (.growH sm)) (r1.gh.trans sm) (r1.zn dx hd1) upd_same f1 q1
/-- e.f in an except suite: the caught error stands at a, its dict at dd -/
def qXf (a dd : Addr) (f : Str) (pq : PQE) : PQE := fun env Q => pq env fun x => match x with
  | .exc a' dd' f' d => a' = a ∧ dd' = dd ∧ f' = f ∧ Q d
  | _ => False
theorem purq_xf {a dd C : Addr} {f : Str} {pq : PQE} (h : PurQ W E Xc te pq) : PurQ W E Xc (tXf a (.ref C) (some dd) C f te) (qXf a dd f pq) := by
  intro Γ H σ env Q Q' v x k q
  refine h Γ H σ env _ _ v x (fun u d Γ' H' g f' q1 => ?_) q
  cases f' <;> first | (exact q1.elim) | skip
  rename_i a' dd' f'' v' d' hd fd
  obtain ⟨rfl, rfl, rfl, q1⟩ := q1
  exact ⟨rfl, rfl, _, _, _, rfl, g.gh _ _ hd, by simp [List.lookup], k _ _ Γ' H' g fd q1⟩
/-- isinstance(e, C), e caught -/
def pIsE (a : Addr) (C0 : Addr) (b : Bool) : D → D → (D → Prop) → Prop
  | .exc a' _ _ _, .cls c, Q => a' = a ∧ c = C0 ∧ Q (.bl b)
  | _, _, _ => False
theorem pc_isE {a C C0 : Addr} {b : Bool} (hk : PySem.W.kitOne W.K (.ref C) (.ref C0) = some b) : PurC W (rIsE W.K C a) (p2 (pIsE a C0 b)) := pc_2 <| by
  intro G H x y dx dy Q Q' e f1 f2 k h
  cases f1 <;> first | (exact h.elim) | skip
  cases f2 <;> first | (exact h.elim) | skip
  obtain ⟨rfl, rfl, q⟩ := h
  exact ⟨.ref _, .ref _, b, rfl, fun u hu => hu, hk, k _ _ G H (Grow.refl e) (.bl _) q⟩
/-- isinstance(x, T) -/
def tyD : D → Option String
  | .non => some "NoneType"
  | .bl _ => some "bool"
  | .int _ => some "int"
  | .str _ => some "str"
  | .lst _ => some "list"
  | .tup _ => some "tuple"
  | _ => none
def isiOk (t n : String) (b : Bool) : Prop := ∀ K : PySem.W.Frag, PySem.W.kitOne K (.type t) (.type n) = some b
def pIsi (x y : D) (Q : D → Prop) : Prop := match tyD x, y with
  | some t, .ty n => (t = n ∧ Q (.bl true)) ∨ (t ≠ n ∧ isiOk t n false ∧ Q (.bl false))
  | _, _ => False
theorem tyX_of {G : Hp} {x : V} {d : D} {t : String} {H : Hp} (e : Same G H) (f : FR W G x d) (h : tyD d = some t) : TyX W.K H x (.type t) := by
  cases f with
  | non => cases h; exact .base .non
  | bl b => cases h; exact .base (.bl b)
  | int i => cases h; exact .base (.int i)
  | str x => cases h; exact .base (.str x)
  | lst ha _ => cases h; exact .base (.lst (e _ _ ha))
  | tup ha _ =>
    cases h
    rcases ha with (ha | ⟨o, ha⟩) | ⟨o, its, n, hk, hc, _⟩
    · exact .base (.tup (e _ _ ha))
    · exact .fTuple (e _ _ ha)
    · exact .kTuple hk hc
  | _ => cases h
theorem pc_isi : PurC W (rIsi W.K) (p2 pIsi) := pc_2 <| by
  intro G H x y dx dy Q Q' e f1 f2 k h
  unfold pIsi at h
  cases ht : tyD dx with
  | none => rw [ht] at h; exact h.elim
  | some t =>
    rw [ht] at h
    cases f2 <;> first | (exact h.elim) | skip
    have ty := tyX_of (W := W) e f1 ht
    rcases h with ⟨rfl, q⟩ | ⟨hne, hk, q⟩
    · refine ⟨_, _, _, _, true, rfl, .ty _, ty, ?_, k _ _ G H (Grow.refl e) (.bl _) q⟩
      unfold PySem.W.kitOne
      rw [if_pos (by simp)]
    · exact ⟨_, _, _, _, false, rfl, .ty _, ty, hk _, k _ _ G H (Grow.refl e) (.bl _) q⟩
/-- try: x = f(..) except C as e: suite -/
def sTry (ix : Nat) (ps : PSp) (pa : PCA) (C : Addr) (ie : Nat) (suite : Addr → Addr → PTS) : PTS := fun L env => pa env fun as e1 => allRef e1 as ∧ refs as = [] ∧ free e1 ie ∧ free e1 ix ∧
  ps (resolve e1 as) (fun s _ => L.nx (e1.set ix s)) (fun C' fs => C' = C ∧ ∃ f d, fs = [(f, d)] ∧ ∀ a dd, suite a dd { nx := fun e => L.nx (e.set ie .nil), rt := L.rt, bk := fun e => L.bk (e.set ie .nil), ct := fun e => L.ct (e.set ie .nil) } (e1.set ie (.frz (.exc a dd f d))))
theorem ER.gone {i : Nat} (e : ER W Z σ0 H G σ env φ) : ER W Z σ0 H G (σ.set i none) (env.set i .nil) φ :=
  e.part (by simp) (by simp) fun j s hj => by
    by_cases hji : i = j
    · subst hji
      rw [List.getElem?_set_self'] at hj
      cases q : env[i]? with
      | none => rw [q] at hj; cases hj
      | some t => rw [q] at hj; exact .inl (Option.some.inj hj).symm
    · rw [List.getElem?_set_ne hji] at hj ⊢
      exact .inr ⟨hj, rfl⟩
theorem no_refs {as : List CArg} (h : refs as = []) (k : Nat) : argF φ as k = emp := by
  rcases argF_cases (φ := φ) as k with q | ⟨i, q, _⟩
  · exact q
  · have := mem_refs q
    rw [h] at this
    cases this
theorem putBack_none {e : Env} : ∀ {as : List CArg} {os : List Slot}, refs as = [] → putBack e as os = e
  | [], _, _ => by simp [putBack]
  | .val _ :: _, [], _ => by simp [putBack]
  | .val _ :: r, _ :: os, h => by
    simp only [putBack]
    exact putBack_none (as := r) (os := os) h
  | .ref _ :: _, _, h => by simp [refs] at h
theorem purs_try {ix ie : Nat} {ps : PSp} {pa : PCA} {C : Addr} {t : TA} {ts : Addr → Value → Option Addr → TS} {suite : Addr → Addr → PTS} (te : PySem.W.exmOne W.K (.ref C) (.ref C) = some true)
    (h : PurCA W E Xc t pa) (hs : ∀ a dd, PurS W E Xc (ts a (.ref C) (some dd)) (suite a dd)) :
    PurS W E Xc (fun D σ H => tAsg (tCallS (spOf W ps) (WE (wAs W.K (.ref C) ie ts (fun _ _ _ _ => False) D)) t) (gName ix) D σ H) (sTry ix ps pa C ie suite) := by
  intro Z σ0 H G σ env φ D D' e x k q
  refine h Z σ0 H G σ env φ _ _ e x (fun vs as H1 G1 e1 p1 t1 r1 c1 q1 => ?_) q
  obtain ⟨ha, hr, fe, fx, q1⟩ := q1
  have zf : ∀ b, Zn H1 (argF p1 as) b → H1 b = none := fun b hb => by
    rcases hb with hb | ⟨i, hb⟩
    · exact hb
    · rw [no_refs hr] at hb; exact absurd rfl hb
  refine ⟨G1, resolve e1 as, argF p1 as, _, _, r1.enter c1 ha, q1, fun v s F H2 G2 outs ψ t2 r2 f2 q2 => ?_, ?_⟩
  · have r3 := r1.leave c1 ha t2 r2
    rw [putBack_none hr] at r3
    have zz := zn_z (as := as) r1
    have jn0 : jn as ψ p1 = p1 := by
      funext j
      cases hp : posOf as j with
      | none => exact jn_none hp
      | some l =>
        have := mem_refs (posOf_some hp)
        rw [hr] at this
        cases this
    rw [jn0] at r3
    have rr : RR W Z H2 G2 p1 v F s := by
      cases s with
      | frz d => exact f2
      | own d =>
        obtain ⟨a, b, c, d1, d2⟩ := f2
        refine ⟨a, b, fun j y => ?_, d1, fun b hb => zz b (d2 b hb)⟩
        cases hy : F y with
        | none => exact .inr rfl
        | some o => exact .inl ((r1.sub j).free (zf y (d2 y (ne_none_of hy))))
      | nil => exact f2
      | par _ => exact f2
    obtain ⟨φ', r4⟩ := r3.storeR fx rr
    exact k.nx _ H2 G2 _ φ' (t1.trans (t2.weak zz)) r4 q2
  · intro C' f d v dx H3 G3 t3 s3 z3 h3 f3 xc
    obtain ⟨rfl, f', d', e4, q4⟩ := xc
    cases e4
    refine ⟨true, te, fun _ a na => ?_, fun z => by cases z⟩
    have zz := zn_z (as := as) r1
    have t4 : Ext Z G1 H1 G3 H3 := t3.weak zz
    have dn := zf dx z3
    -- the caller's state behind the failed call
    have kp : ∀ j, Same (p1 j) H3 := fun j b o hb => t3.hz b o (r1.sub j b o hb) fun z => by
      have := zf b z
      rw [r1.sub j b o hb] at this
      cases this
    have r3 : ER W Z σ0 H3 G3 σ e1 p1 := by
      refine ⟨r1.len, fun i s h => (r1.sl i s h).mono t3.g, r1.dis, fun i b => ?_, kp, s3, fun b hb => ?_, r1.zs⟩
      · cases hb : p1 i b with
        | none => exact .inr rfl
        | some o =>
          refine .inl ?_
          cases hg : G3 b with
          | none => rfl
          | some u =>
            rcases t3.gz b u hg with w | w
            · rcases r1.dg i b with y | y
              · rw [y] at w; cases w
              · rw [y] at hb; cases hb
            · have := zf b w
              rw [r1.sub i b o hb] at this
              cases this
      · cases hb1 : H1 b with
        | none => exact r1.zn b hb1
        | some o =>
          by_cases hz : Zn H1 (argF p1 as) b
          · exact zz b hz
          · rw [t3.hz b o hb1 hz] at hb; cases hb
    -- the error's own dict is told to all
    let G4 : Hp := upd G3 dx (.xd [(f, v)])
    have sg : Same G3 G4 := fun b o hb => by
      by_cases hbd : b = dx
      · subst hbd
        have := s3 b o hb
        rw [h3] at this
        cases this
        exact upd_same
      · show upd G3 dx _ b = _
        rw [upd_ne hbd]; exact hb
    have r4 : ER W Z σ0 H3 G4 σ e1 p1 := by
      refine ⟨r3.len, fun i s h => (r3.sl i s h).mono sg, r3.dis, fun i b => ?_, r3.sub, fun b o hb => ?_, r3.zn, r3.zs⟩
      · by_cases hbd : b = dx
        · subst hbd
          exact .inr ((r1.sub i).free dn)
        · show upd G3 dx _ b = none ∨ _
          rw [upd_ne hbd]
          exact r3.dg i b
      · by_cases hbd : b = dx
        · subst hbd
          have hb' : upd G3 b (.xd [(f, v)]) b = some o := hb
          rw [upd_same] at hb'
          cases hb'
          exact h3
        · have hb' : upd G3 dx (.xd [(f, v)]) b = some o := hb
          rw [upd_ne hbd] at hb'
          exact s3 b o hb'
    have t5 : Ext Z G3 H3 G4 H3 := ⟨sg, fun b o hb => by
      by_cases hbd : b = dx
      · subst hbd; exact .inr (r1.zn _ dn)
      · have hb' : upd G3 dx (.xd [(f, v)]) b = some o := hb
        rw [upd_ne hbd] at hb'
        exact .inl hb', fun _ _ h _ => h⟩
    have r5 := r4.store (i := ie) (v := .ref a) (d := .exc a dx f d) fe (.exc upd_same (f3.mono sg))
    have tt := (t1.trans t4).trans t5
    refine hs a dx Z σ0 H3 G4 _ _ _ _ { nx := fun e => D'.nx (e.set ie .nil), rt := D'.rt, bk := fun e => D'.bk (e.set ie .nil), ct := fun e => D'.ct (e.set ie .nil) } r5 (x.ext tt) ⟨fun σ' H' G' env' φ' t r w => ?_, (k.ext tt).rt, fun σ' H' G' env' φ' t r w => ?_, fun σ' H' G' env' φ' t r w => ?_⟩ (q4 a dx)
    · exact k.nx _ H' G' _ φ' (tt.trans t) r.gone w
    · exact k.bk _ H' G' _ φ' (tt.trans t) r.gone w
    · exact k.ct _ H' G' _ φ' (tt.trans t) r.gone w
end
end Pu

set_option Elab.async false
set_option linter.all false
set_option maxRecDepth 100000
namespace Pu
open PySem PySem.Spec L2

/-! ### a draw's state: a list of a list of ints and an int -/
def stA : D := .hdl 1 .non
def stB : D := .hdl 2 .non
def rep0 : Nat → Hp → Hp → V → D → Prop := fun n _ F v d => match n with
  | 1 => ∃ (a c : Addr) (cells : List Int) (seed : Int), v = .ref a ∧ d = .non ∧ a ≠ c ∧ F a = some (.lst [.ref c, .int seed]) ∧ F c = some (.lst (cells.map V.int))
  | 2 => ∃ (a c : Addr) (cells : List Int) (idx : Int), v = .ref a ∧ d = .non ∧ a ≠ c ∧ F a = some (.lst [.int idx, .ref c]) ∧ F c = some (.lst (cells.map V.int)) ∧ cells ≠ []
  | _ => False
theorem rep0_mono : ∀ n G G' F v d, Same G G' → rep0 n G F v d → rep0 n G' F v d := fun n G G' F v d _ h => h
abbrev wd (P : Program) (w : World) (K : PySem.W.Frag) : Wd := ⟨P, w, K, rep0, rep0_mono⟩
theorem ints_inj : ∀ {a b : List Int}, a.map D.int = b.map D.int → a = b
  | [], [], _ => rfl
  | [], _ :: _, h => by simp at h
  | _ :: _, [], h => by simp at h
  | x :: xs, y :: ys, h => by
    simp only [List.map_cons, List.cons.injEq, D.int.injEq] at h
    rw [h.1, ints_inj h.2]
theorem ints_vs {W : Wd} {G : Hp} : ∀ {ns : List Int} {vs : List V}, FRs W G vs (ns.map D.int) → vs = ns.map V.int
  | [], vs, h => by cases h; rfl
  | n :: ns, vs, h => by
    cases h with
    | cons h t =>
      cases h
      rw [ints_vs t]
      rfl
section
variable {W : Wd} {E : XK} {Xc : XP} {ta tb : TE} {Z : Addr → Prop} {σ0 : L2.St} {H G H' G' : Hp} {σ : L2.St} {env : Env} {φ : Nat → Hp}
/-- [own list of ints, an int]: a new state -/
def oSt (po : PTO) (pq : PQE) : PTO := fun env Q => po env fun s e1 => match s with
  | .own (.lst ds) => pq e1 fun d => match d with
    | .int n => ∃ ns : List Int, ds = ns.map D.int ∧ Q (.own stA) e1
    | _ => False
  | _ => False
theorem puro_st {P : Program} {w : World} {K : PySem.W.Frag} {po : PTO} {pq : PQE} (h1 : PurO (wd P w K) E Xc ta po) (h2 : PurQ (wd P w K) E Xc tb pq) : PurO (wd P w K) E Xc (tLst (tCons ta (tCons tb tNil))) (oSt po pq) := by
  intro Z σ0 H G σ env φ Q Q' e x k q
  refine h1 Z σ0 H G σ env φ _ _ e x (fun v s F H1 G1 e1 p1 t1 r1 f1 q1 => ?_) q
  cases s with
  | own d =>
    cases d <;> first | (exact q1.elim) | skip
    rename_i ds
    obtain ⟨o1, dj, df, sf, zf⟩ := f1
    cases o1 with
    | @lst c vs _ hc fs =>
      refine h2 _ H1 σ e1 _ _ r1.vw ((x.ext t1).view r1) (fun u d Γ2 H2 g2 f2 q2 => ?_) q1
      cases f2 <;> first | (exact q2.elim) | skip
      rename_i n
      obtain ⟨ns, rfl, q2⟩ := q2
      have ev := ints_vs fs
      subst ev
      refine ⟨by show 2 ≤ sizeLine; decide, fun p hp => ?_⟩
      have r2 := r1.growH g2.h
      have sf2 : Same F H2 := sf.trans g2.h
      obtain ⟨r3, t3, d1, d2, d3, d4⟩ := r2.ownNew (o := .lst [.ref c, .int n]) hp
      have pc : p ≠ c := fun z => by
        subst z
        rw [sf2 p _ hc] at hp
        cases hp
      have pF : F p = none := by
        cases z : F p with
        | none => rfl
        | some o => rw [sf2 p o z] at hp; cases hp
      refine k (.ref p) (.own stA) (un (one p (.lst [.ref c, .int n])) F) _ G1 e1 p1 ((t1.trans (.growH g2.h)).trans t3) r3 ⟨.hdl ⟨p, c, ns, n, rfl, rfl, pc, un_l p _ one_same, ?_⟩, (d1.symm.un dj.symm).symm, fun i => ((d2 i).symm.un (df i).symm).symm, un_sub d3 (sf2.trans (same_upd hp)), fun b hb => ?_⟩ q2
      · unfold un
        rw [one_ne (Ne.symm pc)]
        exact hc
      · by_cases hbp : b = p
        · subst hbp; exact d4 b (by rw [one_same]; exact fun z => nomatch z)
        · have : F b ≠ none := fun z => hb (none_un (one_ne hbp) z)
          exact zf b this
  | _ => exact q1.elim
end

section
variable {W : Wd} {E : XK} {Xc : XP} {ta tb : TE} {Z : Addr → Prop} {σ0 : L2.St} {H G H' G' : Hp} {σ : L2.St} {env : Env} {φ : Nat → Hp}
/-- [an int, own list of ints]: a new state of the other kind -/
def oSu (pq : PQE) (po : PTO) : PTO := fun env Q => pq env fun d => ∃ n : Int, d = .int n ∧ po env fun s e1 => ∃ ns : List Int, s = .own (.lst (ns.map D.int)) ∧ ns ≠ [] ∧ Q (.own stB) e1
theorem puro_su {P : Program} {w : World} {K : PySem.W.Frag} {po : PTO} {pq : PQE} (h2 : PurQ (wd P w K) E Xc tb pq) (h1 : PurO (wd P w K) E Xc ta po) : PurO (wd P w K) E Xc (tLst (tCons tb (tCons ta tNil))) (oSu pq po) := by
  intro Z σ0 H G σ env φ Q Q' e x k q
  refine h2 _ H σ env _ _ e.vw (x.view e) (fun u d Γ1 H1 g1 f1 q1 => ?_) q
  obtain ⟨n, rfl, q1⟩ := q1
  cases f1
  have r1 := e.growH g1.h
  have t1 : Ext Z G H G H1 := .growH g1.h
  refine h1 Z σ0 H1 G σ env φ _ _ r1 (x.ext t1) (fun v s F H2 G2 e2 p2 t2 r2 f2 q2 => ?_) q1
  obtain ⟨ns, rfl, hne, q2⟩ := q2
  obtain ⟨o1, dj, df, sf, zf⟩ := f2
  cases o1 with
  | @lst c vs _ hc fs =>
    have ev := ints_vs fs
    subst ev
    refine ⟨by show 2 ≤ sizeLine; decide, fun p hp => ?_⟩
    obtain ⟨r3, t3, d1, d2, d3, d4⟩ := r2.ownNew (o := .lst [.int n, .ref c]) hp
    have pc : p ≠ c := fun z => by
      subst z
      rw [sf p _ hc] at hp
      cases hp
    refine k (.ref p) (.own stB) (un (one p (.lst [.int n, .ref c])) F) _ G2 e2 p2 ((t1.trans t2).trans t3) r3 ⟨.hdl ⟨p, c, ns, n, rfl, rfl, pc, un_l p _ one_same, ?_, hne⟩, (d1.symm.un dj.symm).symm, fun i => ((d2 i).symm.un (df i).symm).symm, un_sub d3 (sf.trans (same_upd hp)), fun b hb => ?_⟩ q2
    · unfold un
      rw [one_ne (Ne.symm pc)]
      exact hc
    · by_cases hbp : b = p
      · subst hbp; exact d4 b (by rw [one_same]; exact fun z => nomatch z)
      · have : F b ≠ none := fun z => hb (none_un (one_ne hbp) z)
        exact zf b this
end
def psTake : PSp := fun as Q _ => ∃ many, as = [.par stB, .frz (.int many)] ∧ many < 1073741824 ∧ ∀ v, 0 ≤ v → (v < many ∨ v = 0) → Q (.frz (.int v)) [.par stB, .nil]
/-! ### drawing: any value below many, and a new state -/
def psDraw : PSp := fun as Q _ => ∃ many, as = [.par stA, .frz (.int many)] ∧ many < 1073741824 ∧ ∀ v, 0 ≤ v → (v < many ∨ v = 0) → Q (.frz (.int v)) [.par stA, .nil]

/-! ### defs as the head tells them -/
abbrev FnP (K : PySem.W.Frag) (x qual : Str) (st : Stmt) (f : Addr) (fd : FuncData) : Prop := FunD K x qual (defArgs st) (defBody st) (defScope st) [] [] f fd
section
variable {P : Program} {w : World} {K : PySem.W.Frag} {mg : Str → Option Value} {base : Heap} {x qual : Str} {st : Stmt} {f : Addr} {fd : FuncData} {N pn : List Str} {k : Nat} {psp : PSp} {rep : Nat → Hp → Hp → V → D → Prop} {mono : ∀ n G G' F v d, Same G G' → rep n G F v d → rep n G' F v d}
theorem sp_len {W : Wd} (hl : ∀ as Q Xc, psp as Q Xc → as.length = pn.length) : ∀ vs H Q E, spOf W psp vs H Q E → vs.length = pn.length := fun vs H Q E h => by
  obtain ⟨G, as, φ, Q', Xc, e, q, _⟩ := h
  have := e.len.1
  rw [List.length_map, hl _ _ _ q] at this
  exact this
/-- one that raises nothing -/
theorem FnP.pure0 (F : FnP K x qual st f fd) (S : FnScope N pn (defScope st)) (hN : pn.length ≤ N.length) (hl : ∀ as Q Xc, psp as Q Xc → as.length = pn.length)
    (hbody : ∀ (cdv : Value) (A : Around) (outer : List PySem.Env) (s : Shared) (H : Hp) (E : XK), Room k (A.deeper (PyProof.Rows.envOfC qual (defScope st) s.heap.objs.size f cdv)) →
      ∃ t p, PSs (cxOf CX0 P w K mg base N qual (defScope st) f cdv A outer s H E).nox (defBody st) t ∧ PurS ⟨P, w, K, rep, mono⟩ E0 NoX t p ∧ ∀ as Q X', psp as Q X' → p (ends pn.length Q) (as ++ nils (N.length - as.length))) :
    FnOk P w K mg base CX0 (k + 1) f fd pn (spOf ⟨P, w, K, rep, mono⟩ psp) := by
  refine F.ok S (sp_len hl) (fun cdv A outer s H vs Q E hr h => ?_)
  obtain ⟨t, p, hs, hp, hb⟩ := hbody cdv A outer s H E hr
  obtain ⟨G, as, φ, Q', Xc, e, q, k, _⟩ := h
  exact ⟨t, hs.nox, body_ok hp hN (hl _ _ _ q) e xok0 (hb _ _ _ q) k⟩
/-- one that may raise -/
theorem FnP.pureX (F : FnP K x qual st f fd) (S : FnScope N pn (defScope st)) (hN : pn.length ≤ N.length) (hl : ∀ as Q Xc, psp as Q Xc → as.length = pn.length)
    (hbody : ∀ (cdv : Value) (A : Around) (outer : List PySem.Env) (s : Shared) (H : Hp) (E : XK), Room k (A.deeper (PyProof.Rows.envOfC qual (defScope st) s.heap.objs.size f cdv)) →
      ∃ t, PSs (cxOf (L2.CX P w) P w K mg base N qual (defScope st) f cdv A outer s H E) (defBody st) t ∧ ∀ Xc, ∃ p, PurS ⟨P, w, K, rep, mono⟩ E Xc t p ∧ ∀ as Q, psp as Q Xc → p (ends pn.length Q) (as ++ nils (N.length - as.length))) :
    FnOk P w K mg base (L2.CX P w) (k + 1) f fd pn (spOf ⟨P, w, K, rep, mono⟩ psp) := by
  refine F.ok S (sp_len hl) (fun cdv A outer s H vs Q E hr h => ?_)
  obtain ⟨t, hs, hp⟩ := hbody cdv A outer s H E hr
  obtain ⟨G, as, φ, Q', Xc, e, q, k, x⟩ := h
  obtain ⟨p, hp, hb⟩ := hp Xc
  exact ⟨t, hs, body_ok hp hN (hl _ _ _ q) e x (hb _ _ q) k⟩
end
/-- a def that may be called -/
structure Cal (P : Program) (w : World) (K : PySem.W.Frag) (mg : Str → Option Value) (base : Heap) (CX : CXT) (lv : Nat) (x : Str) (pn : List Str) (sp : Sp) (f : Addr) (fd : FuncData) : Prop where
  ok : FnOk P w K mg base CX lv f fd pn sp
  b : Binds K fd pn []
  g : mg x = some (.ref f)
  k : PySem.W.keepIn K (.ref f) = true

/-! ### facts of error classes, as one Bool -/
def oexB (K : PySem.W.Frag) (C : Addr) : Bool := match K.lookup C with
  | some ⟨.type "type", _, .cls cd, sl⟩ => (match cd.mro, sl.toList with
    | .ref C' :: bm, [_, _, _, _, some (.builtin n), _] => C' == C && n == "ValueError.__new__" && !cd.hasDel && cd.hasDict && PySem.HandSPX.refsVE bm
    | _, _ => false)
  | _ => false
theorem oexB_ok {K : PySem.W.Frag} {C : Addr} (q : oexB K C = true) : ∃ nm q N bs bm sn sub ab col dd k0 k1 k2 k3 k5, K.lookup C = some (excClassObj nm q C N bs bm true sn sub ab col dd k0 k1 k2 k3 k5 "ValueError.__new__") ∧ PySem.HandSPX.refsVE bm = true := by
  unfold oexB at q
  split at q
  · rename_i dd cd sl ho
    split at q
    · rename_i C' bm k0 k1 k2 k3 n k5 hm hs
      simp only [Bool.and_eq_true, beq_iff_eq, Bool.not_eq_true'] at q
      obtain ⟨⟨⟨⟨rfl, rfl⟩, hdel⟩, hdict⟩, ht⟩ := q
      obtain ⟨nm, bs, mro, ns, qn, hd, sn, sub, ab, col, del⟩ := cd
      dsimp only at hm hdel hdict
      subst hm hdel hdict
      have hsl : sl = #[k0, k1, k2, k3, some (.builtin "ValueError.__new__"), k5] := by
        obtain ⟨l⟩ := sl
        simp only at hs
        rw [hs]
      subst hsl
      exact ⟨nm, qn, ns, bs, bm, sn, sub, ab, col, dd, k0, k1, k2, k3, k5, ho, ht⟩
    · cases q
  · cases q
def eqA {α : Type} [DecidableEq α] (a b : α) : Bool := decide (a = b)
def fvB (a : Option PySem.W.CFound) (v : Value) : Bool := match a with
  | some (.val u) => decide (u = v)
  | _ => false
theorem fvB_ok {a : Option PySem.W.CFound} {v : Value} (h : fvB a v = true) : a = some (.val v) := by
  unfold fvB at h
  split at h
  · rw [of_decide_eq_true h]
  · cases h
/-- all that an error class x over y with the attribute f must say -/
def errB (K : PySem.W.Frag) (x y f : Str) : Bool :=
  eqA (PySem.W.nsIn K mainGlobals x) (some (some (.ref (He.ga K x)))) && (eqA (PySem.W.nsIn K mainGlobals y) (some (some (.ref (He.ga K y)))) && (oexB K (He.ga K x) &&
  (eqA (PySem.W.findIn K (.ref (He.ga K x)) "__setattr__") (some (some (.builtin "object.__setattr__"))) && (eqA (PySem.W.subIn K (.ref (He.ga K x)) (.type "BaseException")) (some true) && (eqA (PySem.W.typeIn K (.ref (He.ga K x))) (some (.type "type")) && (PySem.W.keepIn K (.ref (He.ga K x)) &&
  (eqA (PySem.W.nsIn K cStatics "thirdparty.any") (some none) && (eqA (PySem.W.typeIn K (.ref (He.ga K y))) (some (.type "type")) && (fvB (PySem.W.findCls K (.ref (He.ga K y)) (.type "type") "__init__") (.builtin "ValueError.__init__") &&
  (eqA (PySem.W.findIn K (.ref (He.ga K x)) f) (some none) && (eqA (PySem.W.findIn K (.ref (He.ga K x)) "__init__") (some (some (.ref (He.ma K (He.ga K x) "__init__")))) && (eqA (PySem.W.typeIn K (.ref (He.ma K (He.ga K x) "__init__"))) (some (.type "function")) &&
  (xfB K (He.ga K x) && (eqA (PySem.W.findIn K (.ref (He.ga K x)) "__class__") (some (some (.builtin "object.__class__"))) && (eqA (PySem.W.specialIn K (.builtin "object.__class__") "__get__") (some (some (.builtin "getset_descriptor.__get__"))) && (eqA (PySem.W.takesIn K (.builtin "object.__class__")) (some true) &&
  (eqA (PySem.W.mroIn K (He.ga K x) (.type "object")) (some true) && (eqA (PySem.W.exmOne K (.ref (He.ga K x)) (.ref (He.ga K x))) (some true) && eqA (PySem.W.kitOne K (.ref (He.ga K x)) (.ref (He.ga K y))) (some true)))))))))))))))))))
theorem errB_ok {K : PySem.W.Frag} {h : Heap} {mg : Str → Option Value} (X : K.In h) (Gn : h.Ns mainGlobals mg) {x y f : Str} (q : errB K x y f = true) :
    ErrC K mg (He.ga K x) (He.ma K (He.ga K x) "__init__") (He.ga K y) x y f ∧ PySem.W.kitOne K (.ref (He.ga K x)) (.ref (He.ga K y)) = some true := by
  unfold errB eqA at q
  simp only [Bool.and_eq_true, decide_eq_true_eq] at q
  obtain ⟨h1, h2, h3, h4, h5, h6, h7, h8, h9, h10, h11, h12, h13, h14, h15, h16, h17, h18, h19, h20⟩ := q
  have xf := xfB_ok h14
  exact ⟨⟨PySem.W.mg_of X Gn h1, PySem.W.mg_of X Gn h2, ⟨oexB_ok h3, h4, h5, h6, h7⟩, h8, h9, fvB_ok h10, h11, h12, h13, xf, ⟨xf.ga, xf.gg, h5, xf.hdC, h15, h16, h17, h18⟩, h19⟩, h20⟩

/-! ### the Hook -/
abbrev AlE : Type := He.AlD × Bool
def obsEG (n : Nat) (fa : List He.Fa) (fn : List He.DefD) (ex : PySem.W.Frag → Bool) (g : Addr → Option Obj) : AlE := (He.obsD fa fn (He.frG g (cStatics :: He.asD g n)), ex (He.frG g (cStatics :: He.asD g n)))
def hookE (n : Nat) (fa : List He.Fa) (fn : List He.DefD) (ex : PySem.W.Frag → Bool) : PySem.W.Hook where
  α := AlE
  obs := fun s => obsEG n fa fn ex s.heap.get?
  val := fun _ => (He.valD fn, true)
  says := fun _ h => ∃ K : PySem.W.Frag, K.In h ∧ He.SaysD fa fn K ∧ ex K = true
  of := fun _ _ e => ⟨_, He.frG_in, congrArg (fun z : AlE => z.1) e, congrArg (fun z : AlE => z.2) e⟩
  keeps := fun _ _ _ ⟨K, hK, c⟩ k => ⟨K, PySem.W.Frag.In.keeps hK k, c⟩
theorem obsEG_eq {n : Nat} {fa : List He.Fa} {fn : List He.DefD} {ex : PySem.W.Frag → Bool} {g : Addr → Option Obj} {s : Shared} (h : ∀ a, g a = s.heap.get? a) : obsEG n fa fn ex g = (hookE n fa fn ex).obs s := by
  have e : g = s.heap.get? := funext h
  rw [e] <;> rfl

/-! ### the law's own promise -/
def psLaw : PSp := fun as Q _ => ∃ ns : List Int, as = [.frz (.scr ns)] ∧ ns.length ≤ 63 ∧ Q (.frz (.bl true)) [.nil]
theorem law_sp {W : Wd} {H : Hp} {a : Addr} {ns : List Int} (hl : ns.length ≤ 63) (h : SqL W.K H a (ns.map V.int)) : spOf W psLaw [.ref a] H (fun v _ => v = .bl true) fun _ _ _ => False := by
  refine ⟨H, [.frz (.scr ns)], fun _ => emp, fun s _ => s = .frz (.bl true), NoX, ⟨⟨rfl, rfl⟩, fun i s e => ?_, fun _ _ _ => Dis.emp, fun _ => Dis.emp, fun _ _ _ z => (nomatch z), Same.refl _, fun b hb => .inl hb, fun _ b hb => absurd rfl hb⟩, ⟨ns, rfl, hl, rfl⟩, fun v s F H' G' outs ψ t r f q => ?_, fun _ _ _ _ _ _ _ _ _ _ _ _ z => z.elim⟩
  · cases i with
    | zero =>
      simp at e
      subst e
      exact ⟨.ref a, rfl, .scr h⟩
    | succ i => simp at e
  · subst q
    cases f
    rfl
end Pu

set_option Elab.async false
set_option linter.all false
set_option maxRecDepth 100000
namespace Pu
open PySem PySem.Spec L2
section
variable {W : Wd} {E : XK} {Xc : XP} {ta tb tc te : TE} {tt tu : TT} {Z : Addr → Prop} {σ0 : L2.St} {H G H' G' : Hp} {σ : L2.St} {env : Env} {φ : Nat → Hp}
/-! ### a call in a look -/
def asQ (Q : D → Prop) : Slot → Prop
  | .frz d => Q d
  | .own d => d.sol = true ∧ Q d
  | _ => False
def qCall (ps : PSp) (pa : PQA) : PQE := fun env Q => pa env fun ds => ps (ds.map .frz) (fun s _ => asQ Q s) NoX
theorem er_vals {vs : List V} {ds : List D} (f : FRs W G vs ds) (s : Same G H) : ER W (Zn H fun _ => emp) (vs.map some) H G (vs.map some) (ds.map .frz) fun _ => emp where
  len := ⟨by rw [List.length_map, List.length_map, f.length], rfl⟩
  sl := fun i t h => by
    rw [List.getElem?_map] at h
    cases q : ds[i]? with
    | none => rw [q] at h; cases h
    | some d =>
      rw [q] at h
      cases h
      obtain ⟨v, h1, h2⟩ := f.get q
      exact ⟨v, by rw [List.getElem?_map, h1]; rfl, h2⟩
  dis := fun _ _ _ => Dis.emp
  dg := fun _ => Dis.emp
  sub := fun _ _ _ z => nomatch z
  gh := s
  zn := fun b h => .inl h
  zs := fun _ b h => absurd rfl h
theorem zn_emp {b : Addr} (h : Zn H (fun _ => emp) b) : H b = none := h.elim id fun ⟨_, z⟩ => absurd rfl z
theorem purq_call {ps : PSp} {t : TA} {pa : PQA} (h : PurQA W E Xc t pa) : PurQ W E Xc (tCall (spOf W ps) [] E0 t) (qCall ps pa) := by
  intro Γ H σ env Q Q' v x k q
  refine h Γ H σ env _ _ v x (fun vs ds Γ1 H1 g1 f1 q1 => ?_) q
  rw [List.append_nil]
  refine ⟨Γ1, ds.map .frz, fun _ => emp, _, NoX, er_vals f1 g1.gh, q1, fun u s F H2 G2 outs ψ t2 r2 f2 q2 => ?_, xok0⟩
  have g2 : Grow Γ1 H1 G2 H2 := ⟨t2.g, fun b o hb => t2.hz b o hb (fun z => absurd ((zn_emp z).symm.trans hb) (fun y => nomatch y)), fun b o hb => (t2.gz b o hb).imp id zn_emp, r2.gh⟩
  cases s with
  | frz d => exact k u d G2 H2 (g1.trans g2) f2 q2
  | own d =>
    obtain ⟨a, b, c, d1, d2⟩ := f2
    have f := a.freeze q2.1 b
    have g3 : Grow Γ1 H1 (un G2 F) H2 := ⟨g2.g.trans un_l, g2.h, fun b o hb => by
      rcases un_cases hb with hb | ⟨_, hb⟩
      · exact g2.n b o hb
      · exact .inr (zn_emp (d2 b (ne_none_of hb))), un_sub g2.gh d1⟩
    exact k u d _ H2 (g1.trans g3) f q2.2
  | nil => exact q2.elim
  | par _ => exact q2.elim
def qChain (p p' : D → D → (D → Prop) → Prop) (pa pb pc : PQE) : PQE := fun env Q => pa env fun x => pb env fun y => p x y (asB fun c => if c = true then pc env fun z => p' y z Q else Q (.bl false))
theorem purq_chain {r r' : R2} {p p' : D → D → (D → Prop) → Prop} {pa pb pc : PQE} (hr : PurR2 W r p) (hr' : PurR2 W r' p') (ha : PurQ W E Xc ta pa) (hb : PurQ W E Xc tb pb) (hc : PurQ W E Xc tc pc) :
    PurQ W E Xc (tChain r r' ta tb tc) (qChain p p' pa pb pc) := by
  intro Γ H σ env Q Q' v x k h
  refine ha Γ H σ env _ _ v x (fun v1 d1 G1 H1 g1 f1 q1 => ?_) h
  refine hb G1 H1 σ env _ _ (v.grow g1) (x.grow g1) (fun v2 d2 G2 H2 g2 f2 q2 => ?_) q1
  refine hr G2 H2 v1 v2 d1 d2 _ _ g2.gh (f1.mono g2.g) f2 (fun v3 d3 G3 H3 g3 f3 q3 => ?_) q2
  obtain ⟨c, e1, e2, q3⟩ := asB_of f3 q3
  refine ⟨c, e1, ?_⟩
  cases c with
  | false =>
    rw [if_neg Bool.false_ne_true] at q3 ⊢
    exact k _ _ G3 H3 ((g1.trans g2).trans g3) (.bl false) q3
  | true =>
    rw [if_pos rfl] at q3 ⊢
    refine hc G3 H3 σ env _ _ (((v.grow g1).grow g2).grow g3) (((x.grow g1).grow g2).grow g3) (fun v4 d4 G4 H4 g4 f4 q4 => ?_) q3
    exact hr' G4 H4 v2 v4 d2 d4 _ _ g4.gh ((f2.mono g3.g).mono g4.g) f4 (fun v5 d5 G5 H5 g5 f5 q5 => k v5 d5 G5 H5 ((((g1.trans g2).trans g3).trans g4).trans g5) f5 q5) q4
theorem purqt_chain {r r' : R2} {p p' : D → D → (D → Prop) → Prop} {pa pb pc : PQE} (hr : PurR2 W r p) (hr' : PurR2 W r' p') (ha : PurQ W E Xc ta pa) (hb : PurQ W E Xc tb pb) (hc : PurQ W E Xc tc pc) :
    PurQT W E Xc (tTest (tChain r r' ta tb tc)) (qB (qChain p p' pa pb pc)) := purqt_test (purq_chain hr hr' ha hb hc)
/-! ### xs[i], xs a slot -/
def lkX : Option Slot → Option D
  | some (.frz d) => some d
  | some (.own (.lst ds)) => some (.lst ds)
  | some (.par (.lst ds)) => some (.lst ds)
  | _ => none
def eIxV (i : Nat) (pq : PQE) : PTE := fun env Q => ∃ d, lkX (env[i]?) = some d ∧ pq env fun k => pIx d k fun r => Q r env
theorem pure_ixv {i : Nat} {pq : PQE} (h : PurQ W E Xc te pq) : PurE W E Xc (tOp (rIx W.K) (tVar i) te) (eIxV i pq) := by
  intro Z σ0 H G σ env φ Q Q' e x k q
  have own : ∀ (s : Slot) ds, env[i]? = some s → asL s = some ds → (pq env fun k => pIx (.lst ds) k fun r => Q' r env) → tOp (rIx W.K) (tVar i) te σ H Q := by
    intro s ds hs hl q
    obtain ⟨a, vs, h1, h2, h3, _⟩ := e.mutL hs hl
    refine ⟨.ref a, h1, ?_⟩
    refine h _ H σ env _ _ e.vw (x.view e) (fun u d Γ1 H1 g1 f1 q1 => ?_) q
    cases f1 <;> first | (exact q1.elim) | skip
    simp only [pIx] at q1
    split at q1
    · rename_i r hr
      obtain ⟨v, hv, fv⟩ := atI_frs h3 hr
      exact .inl ⟨_, _, _, v, rfl, rfl, SqL.of (g1.h _ _ h2), hv, k v r H1 G env φ (.growH g1.h) (e.growH g1.h) fv q1⟩
    · exact q1.elim
  obtain ⟨d0, hl, q⟩ := q
  unfold lkX at hl
  split at hl
  · rename_i d hd
    cases hl
    obtain ⟨v, h1, f⟩ := e.sl i _ hd
    refine ⟨v, h1, ?_⟩
    refine h _ H σ env _ _ e.vw (x.view e) (fun u dk Γ1 H1 g1 f1 q1 => ?_) q
    have hk : ∃ n, dk = .int n := by
      cases d0 <;> cases dk <;> first | (exact q1.elim) | exact ⟨_, rfl⟩
    obtain ⟨n, rfl⟩ := hk
    have fu : FR W G u (.int n) := by cases f1; exact .int n
    refine pr_ix G H1 v u d0 (.int n) _ _ (e.gh.trans g1.h) f fu (fun v2 d2 G2 H2 g2 f2 q2 => ?_) q1
    have r1 := e.growH g1.h
    obtain ⟨r2, t2⟩ := r1.grow g2
    exact k v2 d2 H2 G2 env φ ((Ext.growH g1.h).trans t2) r2 f2 q2
  · rename_i ds hd
    cases hl
    exact own _ ds hd rfl q
  · rename_i ds hd
    cases hl
    exact own _ ds hd rfl q
  · cases hl
/-! ### tests with effects -/
variable {pt pu : PTT}
def eAnd (p u : PTT) : PTT := fun env Q => p env fun c e1 => if c = true then u e1 Q else Q false e1
theorem purt_and (h1 : PurT W E Xc tt pt) (h2 : PurT W E Xc tu pu) : PurT W E Xc (tAnd tt tu) (eAnd pt pu) := by
  intro Z σ0 H G σ env φ Q Q' e x k q
  refine h1 Z σ0 H G σ env φ _ _ e x (fun b H1 G1 e1 p1 t1 r1 q1 => ?_) q
  cases b with
  | true =>
    rw [if_pos rfl] at q1 ⊢
    exact h2 Z σ0 H1 G1 σ e1 p1 _ _ r1 (x.ext t1) (fun b H2 G2 e2 p2 t2 r2 q2 => k b H2 G2 e2 p2 (t1.trans t2) r2 q2) q1
  | false =>
    rw [if_neg Bool.false_ne_true] at q1 ⊢
    exact k false H1 G1 e1 p1 t1 r1 q1
def eOr (p u : PTT) : PTT := fun env Q => p env fun c e1 => if c = true then Q true e1 else u e1 Q
theorem purt_or (h1 : PurT W E Xc tt pt) (h2 : PurT W E Xc tu pu) : PurT W E Xc (tOr tt tu) (eOr pt pu) := by
  intro Z σ0 H G σ env φ Q Q' e x k q
  refine h1 Z σ0 H G σ env φ _ _ e x (fun b H1 G1 e1 p1 t1 r1 q1 => ?_) q
  cases b with
  | false =>
    rw [if_neg Bool.false_ne_true] at q1 ⊢
    exact h2 Z σ0 H1 G1 σ e1 p1 _ _ r1 (x.ext t1) (fun b H2 G2 e2 p2 t2 r2 q2 => k b H2 G2 e2 p2 (t1.trans t2) r2 q2) q1
  | true =>
    rw [if_pos rfl] at q1 ⊢
    exact k true H1 G1 e1 p1 t1 r1 q1
def eNot (p : PTT) : PTT := fun env Q => p env fun c e1 => Q (!c) e1
theorem purt_not (h1 : PurT W E Xc tt pt) : PurT W E Xc (tNot tt) (eNot pt) := by
  intro Z σ0 H G σ env φ Q Q' e x k q
  exact h1 Z σ0 H G σ env φ _ _ e x (fun b H1 G1 e1 p1 t1 r1 q1 => k _ H1 G1 e1 p1 t1 r1 q1) q
/-! ### list(..) -/
def pList : D → (D → Prop) → Prop
  | .lst xs, Q => Q (.lst xs)
  | .tup xs, Q => Q (.lst xs)
  | .scr ns, Q => Q (.lst (ns.map D.int))
  | _, _ => False
theorem pc_list : PurC W (fun xs H Q => ∃ p ys, xs = [.ref p] ∧ (SqL W.K H p ys ∨ SqT W.K H p ys) ∧ ∀ l, H l = none → Q (.ref l) (upd H l (.lst ys))) (p1 pList) := pc_1 <| by
  intro G H x d Q Q' e f k h
  have fin : ∀ vs ds, FRs W G vs ds → Q' (.lst ds) → ∀ l, H l = none → Q (.ref l) (upd H l (.lst vs)) := fun vs ds t h l hl => by
    have g := Grow.new (o := .lst vs) e hl
    exact k _ _ _ _ g (.lst upd_same (t.mono g.g)) h
  cases f with
  | lst hs t => exact ⟨_, _, rfl, .inl (SqL.of (e _ _ hs)), fin _ _ t h⟩
  | tup hs t => exact ⟨_, _, rfl, .inr (sqt_mono e hs), fin _ _ t h⟩
  | scr hs => exact ⟨_, _, rfl, .inl (e.seq hs), fin _ _ (frs_ints _) h⟩
  | _ => exact h.elim
end
end Pu

set_option Elab.async false
set_option linter.all false
set_option maxRecDepth 100000
namespace Pu
open PySem PySem.Spec L2
theorem ifT {p q : Prop} (h : p) : if (true = true) then p else q := by rw [if_pos rfl]; exact h
theorem ifF {p q : Prop} (h : q) : if (false = true) then p else q := by rw [if_neg Bool.false_ne_true]; exact h
abbrev rEqA (K : PySem.W.Frag) : R2 := fun x y H Q => rEq x y H Q ∨ rEqD K x y H Q
abbrev rInt1 : List V → Hp → VK → Prop := fun xs H Q => (∃ i, xs = [.int i] ∧ Q (.int i) H) ∨ ∃ k, xs = [.bl k] ∧ Q (.int (if k then 1 else 0)) H
abbrev rLt0 : R2 := rI0 fun i j => .bl (decide (i < j))
abbrev rGt0 : R2 := rI0 fun i j => .bl (decide (j < i))
abbrev rMod0 : R2 := rI (fun _ j => 0 < j) fun i j => .int (i % j)
abbrev rDiv0 : R2 := rI CDiv fun i j => .int (i / j)
abbrev rLenA (K : PySem.W.Frag) : List V → Hp → VK → Prop := fun xs H Q => ∃ x n, xs = [x] ∧ LenV K x H n ∧ Q (.int n) H
abbrev i0 (n : Int) : TE := tC (.int n)
/-- what _law_draw does -/
def t_draw (K : PySem.W.Frag) : TS :=
  tSeq (tIfS (tTest (tOp rLt0 (tVar 1) (i0 1))) (tRet (i0 0)) tNext)
  (tSeq (tAsg (tOp (rIx K) (tVar 0) (i0 0)) (gName 2))
  (tSeq (tWhile (tAnd (tTest (tOp rGt0 (tCB (rLenA K) (tCons (tVar 2) tNil)) (i0 0))) (tTest (tOp (rEqA K) (tOp (rIx K) (tVar 2) (i0 0)) (i0 0)))) (tDrop (tBM K "list" rPopAt (tVar 2) (tCons (i0 0) tNil))))
  (tSeq (tIfS (tTest (tOp rGt0 (tCB (rLenA K) (tCons (tVar 2) tNil)) (i0 0)))
    (tSeq (tAsg (tOp (rIx K) (tVar 2) (i0 0)) (gName 3))
    (tSeq (tAsg (tOp rDiv0 (tVar 3) (tVar 1)) (gSub (tVar 2) (i0 0) rSetL))
    (tRet (tOp rMod0 (tCB rInt1 (tCons (tVar 3) tNil)) (tVar 1))))) tNext)
  (tSeq (tAsg (tOp rMod0 (tCB rInt1 (tCons (tOp (rPlus K) (tOp rTimes (tOp (rIx K) (tVar 0) (i0 1)) (i0 48271)) (i0 12345)) tNil)) (i0 2147483647)) (gName 4))
  (tSeq (tAsg (tVar 4) (gSub (tVar 0) (i0 1) rSetL))
  (tRet (tOp rMod0 (tCB rInt1 (tCons (tOp rDiv0 (tVar 4) (i0 64)) tNil)) (tVar 1))))))))
section
variable {P : Program} {w : World} {K : PySem.W.Frag} {Z : Addr → Prop} {σ0 : L2.St} {H G H' G' : Hp} {σ : L2.St} {env : Env} {φ : Nat → Hp}
theorem drop_zero {cells : List Int} : cells.dropWhile (· == 0) = [] ∨ ∃ v r, cells.dropWhile (· == 0) = v :: r ∧ v ≠ 0 := by
  induction cells with
  | nil => exact .inl rfl
  | cons c cs ih =>
    by_cases h : c = 0
    · subst h; simpa using ih
    · exact .inr ⟨c, cs, by simp [h], h⟩
/-- the state at a, c is another, all else stands -/
theorem draw_out {a c : Addr} {cells2 : List Int} {la : List V} {many : Int} {st : D} (hr : ∀ F : Hp, F a = some (.lst la) → F c = some (.lst (cells2.map V.int)) → OR (wd P w K) G F (.ref a) st)
    (e : ER (wd P w K) (Zn H φ) [some (.ref a), some (.int many)] H G [some (.ref a), some (.int many)] [.par st, .frz (.int many)] φ)
    (ha : φ 0 a ≠ none) (hc : φ 0 c ≠ none) (hac : a ≠ c) {H2 : Hp} (h1 : H2 a = some (.lst la)) (h2 : H2 c = some (.lst (cells2.map V.int))) (h3 : ∀ b, b ≠ a → b ≠ c → H2 b = H b) :
    Ext (Zn H φ) G H G H2 ∧ ER (wd P w K) (Zn H φ) [some (.ref a), some (.int many)] H2 G [some (.ref a), some (.int many)] [.par st, .nil]
      (fun j => if j = 0 then un (one a (.lst la)) (one c (.lst (cells2.map V.int))) else φ j) := by
  have za := e.zs 0 a ha
  have zc := e.zs 0 c hc
  have oa : ∀ j, j ≠ 0 → φ j a = none := fun j hj => (e.dis j 0 hj a).resolve_right ha
  have oc : ∀ j, j ≠ 0 → φ j c = none := fun j hj => (e.dis j 0 hj c).resolve_right hc
  have ga : G a = none := (e.dg 0 a).resolve_right ha
  have gc : G c = none := (e.dg 0 c).resolve_right hc
  have fa : H a ≠ none := by
    cases q : φ 0 a with
    | none => exact absurd q ha
    | some o => rw [e.sub 0 a o q]; exact fun z => nomatch z
  have fc : H c ≠ none := by
    cases q : φ 0 c with
    | none => exact absurd q hc
    | some o => rw [e.sub 0 c o q]; exact fun z => nomatch z
  let F : Hp := un (one a (.lst la)) (one c (.lst (cells2.map V.int)))
  have Fa : F a = some (.lst la) := un_l a _ one_same
  have Fc : F c = some (.lst (cells2.map V.int)) := by
    show un _ _ c = _
    unfold un
    rw [one_ne (Ne.symm hac)]
    exact one_same
  have Fo : ∀ b, b ≠ a → b ≠ c → F b = none := fun b p q => none_un (one_ne p) (one_ne q)
  have Fn : ∀ b, F b ≠ none → b = a ∨ b = c := fun b h => by
    by_cases p : b = a
    · exact .inl p
    · by_cases q : b = c
      · exact .inr q
      · exact absurd (Fo b p q) h
  refine ⟨⟨Same.refl _, fun _ _ h => .inl h, fun b o h n => ?_⟩, ⟨⟨rfl, rfl⟩, fun i s hs => ?_, fun i j hij => ?_, fun i => ?_, fun i => ?_, fun b o h => ?_, fun b h => ?_, fun i b h => ?_⟩⟩
  · rw [h3 b (fun z => n (z ▸ za)) (fun z => n (z ▸ zc))]
    exact h
  · match i, hs with
    | 0, hs =>
      simp at hs
      subst hs
      exact ⟨.ref a, rfl, rfl, hr _ Fa Fc⟩
    | 1, hs =>
      simp at hs
      subst hs
      exact trivial
    | n + 2, hs => simp at hs
  · have d1 : ∀ m, m ≠ 0 → Dis (φ m) F := fun m hm b => by
      by_cases p : b = a
      · subst p; exact .inl (oa m hm)
      · by_cases q : b = c
        · subst q; exact .inl (oc m hm)
        · exact .inr (Fo b p q)
    by_cases hi : i = 0
    · by_cases hj : j = 0
      · exact absurd (hi.trans hj.symm) hij
      · simp only [if_pos hi, if_neg hj]
        exact (d1 j hj).symm
    · by_cases hj : j = 0
      · simp only [if_neg hi, if_pos hj]
        exact d1 i hi
      · simp only [if_neg hi, if_neg hj]
        exact e.dis i j hij
  · by_cases hi : i = 0
    · simp only [if_pos hi]
      intro b
      by_cases p : b = a
      · subst p; exact .inl ga
      · by_cases q : b = c
        · subst q; exact .inl gc
        · exact .inr (Fo b p q)
    · simp only [if_neg hi]; exact e.dg i
  · by_cases hi : i = 0
    · simp only [if_pos hi]
      intro b o h
      have h' : F b = some o := h
      rcases Fn b (by rw [h']; exact fun z => nomatch z) with p | q
      · subst p; rw [Fa] at h'; rw [h1]; exact h'
      · subst q; rw [Fc] at h'; rw [h2]; exact h'
    · simp only [if_neg hi]
      intro b o h
      rw [h3 b (fun z => by subst z; rw [oa i hi] at h; cases h) (fun z => by subst z; rw [oc i hi] at h; cases h)]
      exact e.sub i b o h
  · rw [h3 b (fun z => by subst z; rw [ga] at h; cases h) (fun z => by subst z; rw [gc] at h; cases h)]
    exact e.gh b o h
  · by_cases p : b = a
    · subst p; rw [h1] at h; cases h
    · by_cases q : b = c
      · subst q; rw [h2] at h; cases h
      · rw [h3 b p q] at h; exact .inl h
  · by_cases hi : i = 0
    · simp only [if_pos hi] at h
      rcases Fn b h with p | q
      · rw [p]; exact za
      · rw [q]; exact zc
    · simp only [if_neg hi] at h
      exact e.zs i b h
theorem atI0 {α : Type} {x : α} {xs : List α} : atI (x :: xs) 0 = some x := by
  simp [atI, ixN]
theorem eqA0 {v : Int} {H : Hp} {Q : VK} (h : Q (.bl (decide (v = 0))) H) : rEqA K (.int v) (.int 0) H Q := .inl ⟨rfl, by
  have : decide (V.int v = V.int 0) = decide (v = 0) := by simp
  rw [this]; exact h⟩
theorem draw_read {N : List Str} (hN : N.length = 5) (vs : List V) (H : Hp) (Q : VK) (E : XK) (h : spOf (wd P w K) psDraw vs H Q E) : t_draw K { nx := fun _ H' => Q .non H', rt := Q } (L2.start N vs) H := by
  obtain ⟨G, as, φ, Q', Xc, e, ⟨many, rfl, hm, q⟩, k, _⟩ := h
  have hl := e.len.1
  rw [List.length_map] at hl
  match vs, hl with
  | [u, v], _ =>
  obtain ⟨u', a1, a2, a3⟩ := e.sl 0 _ rfl
  obtain ⟨v', b1, b2⟩ := e.sl 1 _ rfl
  simp at a1 b1
  subst a1 b1
  cases b2
  cases a3 with
  | hdl r =>
  obtain ⟨a, c, cells, seed, rfl, _, hac, hFa, hFc⟩ := r
  have hs : L2.start N [.ref a, .int many] = [some (.ref a), some (.int many), none, none, none] := by
    unfold L2.start
    rw [hN]
    rfl
  rw [hs]
  have ha := ne_none_of hFa
  have hc := ne_none_of hFc
  have hHa := e.sub 0 a _ hFa
  have hHc := e.sub 0 c _ hFc
  refine ⟨_, rfl, _, _, rfl, rfl, _, rfl, ?_⟩
  by_cases hmany : many < 1
  · rw [decide_eq_true hmany]; refine ifT ?_
    obtain ⟨t, r⟩ := draw_out (cells2 := cells) (st := stA) (fun F h1 h2 => .hdl ⟨a, c, _, _, rfl, rfl, hac, h1, h2⟩) e ha hc hac (H2 := H) hHa hHc (fun _ _ _ => rfl)
    exact k _ (.frz (.int 0)) emp H G _ _ t r (.int 0) (q 0 (by omega) (.inr rfl))
  rw [decide_eq_false hmany]; refine ifF ?_
  have SqA : ∀ {H2 : Hp} {s : Int}, H2 a = some (.lst [.ref c, .int s]) → SqL K H2 a [.ref c, .int s] := fun h => SqL.of h
  refine ⟨_, rfl, .inl ⟨a, _, 0, .ref c, rfl, rfl, SqA hHa, atI0, ?_⟩⟩
  refine ⟨fun m σ' H' => ∃ cs : List Int, cs.length = m ∧ cs.dropWhile (· == 0) = cells.dropWhile (· == 0) ∧ σ' = [some (.ref a), some (.int many), some (.ref c), none, none] ∧ H' a = some (.lst [.ref c, .int seed]) ∧ H' c = some (.lst (cs.map V.int)) ∧ ∀ b, b ≠ a → b ≠ c → H' b = H b,
    ⟨_, cells, rfl, rfl, rfl, hHa, hHc, fun _ _ _ => rfl⟩, ?_⟩
  rintro m σ' H' ⟨cs, rfl, hcs, rfl, hA, hC, hO⟩
  -- behind the loop
  have after : ∀ (b : Bool), (b = false → cs.dropWhile (· == 0) = cs) → b = false →
      (tSeq (tIfS (tTest (tOp rGt0 (tCB (rLenA K) (tCons (tVar 2) tNil)) (i0 0)))
    (tSeq (tAsg (tOp (rIx K) (tVar 2) (i0 0)) (gName 3))
    (tSeq (tAsg (tOp rDiv0 (tVar 3) (tVar 1)) (gSub (tVar 2) (i0 0) rSetL))
    (tRet (tOp rMod0 (tCB rInt1 (tCons (tVar 3) tNil)) (tVar 1))))) tNext)
  (tSeq (tAsg (tOp rMod0 (tCB rInt1 (tCons (tOp (rPlus K) (tOp rTimes (tOp (rIx K) (tVar 0) (i0 1)) (i0 48271)) (i0 12345)) tNil)) (i0 2147483647)) (gName 4))
  (tSeq (tAsg (tVar 4) (gSub (tVar 0) (i0 1) rSetL))
  (tRet (tOp rMod0 (tCB rInt1 (tCons (tOp rDiv0 (tVar 4) (i0 64)) tNil)) (tVar 1)))))) { nx := fun _ H' => Q .non H', rt := Q } [some (.ref a), some (.int many), some (.ref c), none, none] H' := by
    intro b hb hbf
    have hcs' := hb hbf
    rw [hcs'] at hcs
    refine ⟨_, rfl, _, (cs.map V.int).length, rfl, .inl ⟨_, SqL.of hC, rfl⟩, _, _, rfl, rfl, _, rfl, ?_⟩
    cases cs with
    | nil =>
      rw [decide_eq_false (by simp)]; refine ifF ?_
      refine ⟨_, rfl, .inl ⟨a, _, 1, .int seed, rfl, rfl, SqA hA, rfl, .inl ⟨_, _, rfl, rfl, .inr (by decide), .inl ⟨_, _, rfl, rfl, .inl ⟨_, rfl, _, _, rfl, rfl, (by decide : (0 : Int) < 2147483647), ?_⟩⟩⟩⟩⟩
      refine ⟨_, rfl, _, rfl, a, _, 1, 1, rfl, rfl, hA, rfl, ?_⟩
      refine ⟨_, rfl, _, _, rfl, rfl, (by decide : (0 : Int) < 64 ∧ (64 : Int) < 1073741824), .inl ⟨_, rfl, _, rfl, _, _, rfl, rfl, by omega, ?_⟩⟩
      obtain ⟨t, r⟩ := draw_out (cells2 := []) (st := stA) (fun F h1 h2 => .hdl ⟨a, c, _, _, rfl, rfl, hac, h1, h2⟩) e ha hc hac (H2 := upd H' a (.lst ([V.ref c, .int seed].set 1 (.int ((seed * 48271 + 12345) % 2147483647))))) upd_same
        (by rw [upd_ne (Ne.symm hac)]; exact hC) (fun b h1 h2 => by rw [upd_ne h1]; exact hO b h1 h2)
      exact k _ (.frz (.int _)) emp _ G _ _ t r (.int _) (q _ (Int.emod_nonneg _ (by omega)) (.inl (Int.emod_lt_of_pos _ (by omega))))
    | cons v cs =>
      rw [decide_eq_true (by simp)]; refine ifT ?_
      refine ⟨_, rfl, .inl ⟨c, _, 0, .int v, rfl, rfl, SqL.of hC, atI0, ?_⟩⟩
      refine ⟨_, rfl, _, rfl, _, _, rfl, rfl, ⟨by omega, hm⟩, _, rfl, c, _, 0, 0, rfl, rfl, hC, by simp [ixN], ?_⟩
      refine ⟨_, rfl, .inl ⟨_, rfl, _, rfl, _, _, rfl, rfl, by omega, ?_⟩⟩
      obtain ⟨t, r⟩ := draw_out (cells2 := v / many :: cs) (st := stA) (fun F h1 h2 => .hdl ⟨a, c, _, _, rfl, rfl, hac, h1, h2⟩) e ha hc hac (H2 := upd H' c (.lst (((v :: cs).map V.int).set 0 (.int (v / many)))))
        (by rw [upd_ne hac]; exact hA) upd_same (fun b h1 h2 => by rw [upd_ne h2]; exact hO b h1 h2)
      exact k _ (.frz (.int _)) emp _ G _ _ t r (.int _) (q _ (Int.emod_nonneg _ (by omega)) (.inl (Int.emod_lt_of_pos _ (by omega))))
  refine ⟨_, rfl, _, (cs.map V.int).length, rfl, .inl ⟨_, SqL.of hC, rfl⟩, _, _, rfl, rfl, _, rfl, ?_⟩
  cases cs with
  | nil =>
    rw [decide_eq_false (by simp)]; refine ifF ?_
    exact after false (fun _ => rfl) rfl
  | cons v cs =>
    rw [decide_eq_true (by simp)]; refine ifT ?_
    refine ⟨_, rfl, .inl ⟨c, _, 0, .int v, rfl, rfl, SqL.of hC, atI0, eqA0 ⟨_, rfl, ?_⟩⟩⟩
    by_cases hv : v = 0
    · rw [decide_eq_true hv]; refine ifT ?_
      subst hv
      refine ⟨fun σ2 H2 => ∃ m', m' < (0 :: cs).length ∧ ∃ ds : List Int, ds.length = m' ∧ ds.dropWhile (· == 0) = cells.dropWhile (· == 0) ∧ σ2 = [some (.ref a), some (.int many), some (.ref c), none, none] ∧ H2 a = some (.lst [.ref c, .int seed]) ∧ H2 c = some (.lst (ds.map V.int)) ∧ ∀ b, b ≠ a → b ≠ c → H2 b = H b, fun σ2 H2 h => h, ?_⟩
      refine ⟨_, rfl, .inl ⟨rfl, _, SqL.of hC⟩, c, _, 0, 0, .int 0, rfl, rfl, hC, by decide, by decide, by simp [seqIndex?], rfl, ?_⟩
      exact ⟨cs.length, by simp, cs, rfl, by rw [← hcs]; simp [List.dropWhile], rfl, by rw [upd_ne hac]; exact hA, upd_same, fun b h1 h2 => by rw [upd_ne h2]; exact hO b h1 h2⟩
    · rw [decide_eq_false hv]; refine ifF ?_
      exact after false (fun _ => by simp [hv]) rfl
end
end Pu

set_option Elab.async false
set_option linter.all false
set_option maxRecDepth 100000
namespace Pu
open PySem PySem.Spec L2
/-- isinstance(e, c), e the caught exception at a, its dict at dd -/
def rIsX (K : PySem.W.Frag) (C a dd : Addr) : List V → Hp → VK → Prop := fun xs H Q => ∃ (c : V) (cv : Value) (b : Bool) (fs : List (Str × V)), xs = [.ref a, c] ∧ H dd = some (.xd fs) ∧ (∀ u, RelV c u → u = cv) ∧ PySem.W.kitOne K (.ref C) cv = some b ∧ Q (.bl b) H
theorem cls_some {K : PySem.W.Frag} {C : Addr} (h : PySem.W.hasDictIn K C = true) : (PySem.W.clsIn K C).isSome = true := by
  cases q : PySem.W.clsIn K C with
  | some _ => rfl
  | none =>
    unfold PySem.W.hasDictIn at h
    rw [q] at h
    cases h
theorem call_isX {X : Cx} {a C dd : Addr} {oe : Obj} {pn : List (Addr × Obj)} (T : ExcC X.K C) (hz : Zc (.ref C) (some dd) oe) (hf : ∃ vs, oe.data = .fields vs) : CallR (X.suite a ((a, oe) :: pn)) (.builtin "isinstance") (rIsX X.K C a dd) := by
  intro pins s σ H xs us Q I r h
  obtain ⟨c, cv, b, fs, rfl, hd, hcv, e, q⟩ := h
  match us, r with
  | [_, t], .cons rx (.cons rt .nil) =>
    cases rx
    obtain rfl := hcv _ rt
    have ha := (I.pin (a, oe) (List.mem_append.mpr (.inl List.mem_cons_self))).1
    obtain ⟨vs, hv⟩ := hf
    obtain ⟨mA, hns, _⟩ := (show ObjOk X.prog X.w H s.heap dd (.xd fs) from I.hok dd _ hd)
    obtain ⟨od, ho, _⟩ := lookIn_ns hns
    have J : PySem.W.InstAt s.heap a oe C (some od) := ⟨ha, hz.1, by unfold PySem.W.notCls; rw [hv] <;> rfl, by rw [hz.2]; exact ho⟩
    exact PySem.W.kia_one (PySem.W.kitx_exc (cls_some T.hd) T.hg T.hk T.hs T.ha T.hn T.ht T.hm) I.kIn J e (fun z => nomatch z) fun tk => ⟨.bl b, H, I.kept (t' := tk) fun _ _ z => z, rfl, q⟩
def pIsX (a dd C0 : Addr) (b : Bool) : D → D → (D → Prop) → Prop
  | .exc a' dd' _ _, .cls c, Q => a' = a ∧ dd' = dd ∧ c = C0 ∧ Q (.bl b)
  | _, _, _ => False
theorem pc_isX {W : Wd} {a dd C C0 : Addr} {b : Bool} (hk : PySem.W.kitOne W.K (.ref C) (.ref C0) = some b) : PurC W (rIsX W.K C a dd) (p2 (pIsX a dd C0 b)) := pc_2 <| by
  intro G H x y dx dy Q Q' e f1 f2 k h
  cases f1 <;> first | (exact h.elim) | skip
  rename_i hd fd
  cases f2 <;> first | (exact h.elim) | skip
  obtain ⟨rfl, rfl, rfl, q⟩ := h
  exact ⟨.ref _, .ref _, b, _, rfl, e _ _ hd, fun u hu => hu, hk, k _ _ G H (Grow.refl e) (.bl _) q⟩
end Pu
namespace Pu
open PySem PySem.Spec L2
def tsX (C : Addr) (f : Addr → Addr → TS) : Addr → Value → Option Addr → TS := fun a cls d => match cls, d with
  | .ref c, some dd => if c = C then f a dd else tNever
  | _, _ => tNever
theorem tsX_self {C a dd : Addr} {f : Addr → Addr → TS} : tsX C f a (.ref C) (some dd) = f a dd := if_pos rfl
theorem pss_never {X : Cx} {b : List Stmt} : PSs X b tNever := ⟨fun _ _ _ _ _ _ h => h.elim⟩
theorem pss_tsX {X : Cx} {b : List Stmt} {C a : Addr} {cls : Value} {d : Option Addr} {oe : Obj} {f : Addr → Addr → TS} (hz : Zc cls d oe) (h : ∀ dd, Zc (.ref C) (some dd) oe → PSs X b (f a dd)) : PSs X b (tsX C f a cls d) := by
  unfold tsX
  split
  · rename_i c dd
    split
    · rename_i e
      subst e
      exact h dd hz
    · exact pss_never
  · exact pss_never
theorem purs_tryX {W : Wd} {E : XK} {Xc : XP} {ix ie : Nat} {ps : PSp} {pa : PCA} {C : Addr} {t : TA} {f : Addr → Addr → TS} {suite : Addr → Addr → PTS} (te : PySem.W.exmOne W.K (.ref C) (.ref C) = some true)
    (h : PurCA W E Xc t pa) (hs : ∀ a dd, PurS W E Xc (f a dd) (suite a dd)) :
    PurS W E Xc (fun D σ H => tAsg (tCallS (spOf W ps) (WE (wAs W.K (.ref C) ie (tsX C f) (fun _ _ _ _ => False) D)) t) (gName ix) D σ H) (sTry ix ps pa C ie suite) :=
  purs_try te h fun a dd => by rw [tsX_self]; exact hs a dd
end Pu
namespace Pu
open PySem PySem.Spec L2
/-- a promise: its arguments by a datum, what it answers -/
def psOf {α : Type} (A : α → List Slot) (R : α → (Slot → Env → Prop) → XP → Prop) : PSp := fun as Q Xc => ∃ x, as = A x ∧ R x Q Xc
theorem psOf_len {α : Type} {A : α → List Slot} {R : α → (Slot → Env → Prop) → XP → Prop} {n : Nat} (h : ∀ x, (A x).length = n) : ∀ as Q Xc, psOf A R as Q Xc → as.length = n := by
  rintro as Q Xc ⟨x, rfl, _⟩
  exact h x
/-- the __init__ of an error class -/
structure Ini (P : Program) (w : World) (K : PySem.W.Frag) (mg : Str → Option Value) (base : Heap) (C : Addr) (f : Str) (fI : Addr) : Prop where
  ex : ∃ (pn : List Str) (fd : FuncData), FnOk P w K mg base CX0 1 fI fd pn (spInitK K C f) ∧ Binds K fd pn []
end Pu
namespace Pu
open PySem PySem.Spec L2
theorem rv_int {i : Int} {t : Tok} : RelV (.int i) (.int i t) := ⟨t, rfl⟩
theorem rv_str {i : Str} {t : Tok} : RelV (.str i) (.str i t) := ⟨t, rfl⟩
theorem rv_ref {a : Addr} : RelV (.ref a) (.ref a) := rfl
theorem rv_ty {n : String} : RelV (.ty n) (.type n) := rfl
end Pu
namespace Pu
open PySem PySem.Spec L2
theorem rng_zero {lo : Int} : rng lo 0 = [] := rfl
theorem rng_succ {lo : Int} {n : Nat} : rng lo (n + 1) = .int lo :: rng (lo + 1) n := by
  unfold rng
  rw [List.range_succ_eq_map]
  simp only [List.map_cons, List.map_map, List.cons.injEq]
  refine ⟨by simp, ?_⟩
  apply List.map_congr_left
  intro k _
  simp only [Function.comp, D.int.injEq]
  omega
theorem atI_app {α : Type} {pre r : List α} {c : α} {i : Int} (h : i = (pre.length : Int)) : atI (pre ++ c :: r) i = some c := by
  subst h
  unfold atI ixN
  rw [if_pos (by omega), if_pos (by simp; omega)]
  simp
theorem atI_nat {α : Type} {xs : List α} {n : Nat} {c : α} (h : xs[n]? = some c) : atI xs (n : Int) = some c := by
  have hn := (List.getElem?_eq_some_iff.mp h).1
  unfold atI ixN
  rw [if_pos (by omega), if_pos (by omega)]
  simpa using h
theorem len_cps (t : Str) : t.length = t.cps.toList.length := by
  show t.cps.size = _
  simp
theorem big : (sizeLine : Nat) = 16777216 := sizeLine_eq
theorem chr_eq {c d : Nat} : (⟨#[c]⟩ : Str) = ⟨#[d]⟩ ↔ c = d := by simp
end Pu
namespace Pu
open PySem PySem.Spec L2
def frS : Slot → Bool
  | .par _ => false
  | _ => true
theorem free_0 {x : Slot} {e : Env} : free (x :: e) 0 ↔ frS x = true := by
  unfold free frS
  cases x <;> simp
theorem free_succ {x : Slot} {e : Env} {n : Nat} : free (x :: e) (n + 1) ↔ free e n := by
  unfold free
  simp
theorem rng_get {lo : Int} {n i : Nat} {d : D} (h : (rng lo n)[i]? = some d) : i < n ∧ d = .int (lo + i) := by
  unfold rng at h
  rw [List.getElem?_map] at h
  cases q : (List.range n)[i]? with
  | none => rw [q] at h; cases h
  | some k =>
    rw [q] at h
    obtain ⟨hi, hk⟩ := List.getElem?_eq_some_iff.mp q
    simp only [List.length_range] at hi
    simp only [List.getElem_range] at hk
    subst hk
    exact ⟨hi, (Option.some.inj h).symm⟩
theorem rng_len {lo : Int} {n : Nat} : (rng lo n).length = n := by simp [rng]
end Pu
namespace Pu
theorem frS_frz {d : D} : frS (.frz d) = true := rfl
theorem frS_own {d : D} : frS (.own d) = true := rfl
theorem frS_nil : frS .nil = true := rfl
theorem eqOk_ii {a b : Int} : eqOk (.int a) (.int b) = true := rfl
theorem eqOk_ss {a b : PySem.Str} : eqOk (.str a) (.str b) = true := rfl
theorem eqOk_bb {a b : Bool} : eqOk (.bl a) (.bl b) = true := rfl
theorem eqOk_ni {b : Int} : eqOk .non (.int b) = true := rfl
theorem eqOk_in {b : Int} : eqOk (.int b) .non = true := rfl
end Pu

set_option Elab.async false
set_option linter.all false
set_option maxRecDepth 100000
namespace Pu
open PySem PySem.Spec L2
/-! ### how the promises compute -/
section
variable {d : D} {e : Env} {n : Nat} {i j : Int} {b c : Bool} {x y z : Str} {xs ys : List D} {Q : D → Prop} {R : D → Env → Prop} {QB : Bool → Prop} {QI : Int → Prop} {ns : List Int} {a dd : Addr} {s : Slot}
theorem rd_lkL1 : lkL (some (.frz d)) = some d := rfl
theorem rd_lkL2 : lkL (some (.own d)) = if d.sol = true then some d else none := rfl
theorem rd_lkL3 : lkL (some (.par d)) = if d.sol = true then some d else none := rfl
theorem rd_lkE1 : lkE (some (.frz d)) = some d := rfl
theorem rd_lkE2 : lkE (some (.own d)) = if d.sol = true then some d else none := rfl
theorem rd_thE1 : thE e n (some (.frz d)) = e := rfl
theorem rd_thE2 : thE e n (some (.own d)) = e.set n (.frz d) := rfl
theorem rd_lkF1 : lkF (some (.frz d)) = some d := rfl
theorem rd_lkX1 : lkX (some (.frz d)) = some d := rfl
theorem rd_lkX2 : lkX (some (.own (.lst xs))) = some (.lst xs) := rfl
theorem rd_lkX3 : lkX (some (.par (.lst xs))) = some (.lst xs) := rfl
theorem rd_mvS1 : mvS (some (.frz d)) = some (.frz d) := rfl
theorem rd_mvS2 : mvS (some (.own d)) = some (.own d) := rfl
theorem rd_mvE1 : mvE e n (some (.frz d)) = e := rfl
theorem rd_mvE2 : mvE e n (some (.own d)) = e.set n .nil := rfl
theorem rd_lsO1 : lsO (.lst xs) = some xs := rfl
theorem rd_lsO2 : lsO (.scr ns) = some (ns.map D.int) := rfl
theorem rd_tpO1 : tpO (.tup xs) = some xs := rfl
theorem rd_sol1 : D.sol .non = true := rfl
theorem rd_sol2 : D.sol (.bl b) = true := rfl
theorem rd_sol3 : D.sol (.int i) = true := rfl
theorem rd_sol4 : D.sol (.str x) = true := rfl
theorem rd_sol5 : D.sol (.lst xs) = true := rfl
theorem rd_sol6 : D.sol (.tup xs) = true := rfl
theorem rd_sol7 : D.sol (.hdl n d) = false := rfl
theorem rd_flat1 : flat .non = true := rfl
theorem rd_flat2 : flat (.bl b) = true := rfl
theorem rd_flat3 : flat (.int i) = true := rfl
theorem rd_flat4 : flat (.str x) = true := rfl
theorem rd_flat5 : flat (.cls a) = true := rfl
theorem rd_asD1 : asD R (.frz d) e = R d e := rfl
theorem rd_asD2 : asD R (.own d) e = (d.sol = true ∧ R d e) := rfl
theorem rd_asQ1 : asQ Q (.frz d) = Q d := rfl
theorem rd_asQ2 : asQ Q (.own d) = (d.sol = true ∧ Q d) := rfl
theorem rd_asB : asB QB (.bl b) = QB b := rfl
theorem rd_asI : asI QI (.int i) = QI i := rfl
theorem rd_p1 {p : D → (D → Prop) → Prop} : p1 p [d] Q = p d Q := rfl
theorem rd_p2 {p : D → D → (D → Prop) → Prop} {d2 : D} : p2 p [d, d2] Q = p d d2 Q := rfl
theorem rd_pI0 {g : Int → Int → D} : pI0 g (.int i) (.int j) Q = Q (g i j) := rfl
theorem rd_pI2 {C : Int → Int → Prop} {g : Int → Int → D} : pI2 C g (.int i) (.int j) Q = (C i j ∧ Q (g i j)) := rfl
theorem rd_pU {g : Int → Int} : pU g (.int i) Q = Q (.int (g i)) := rfl
theorem rd_pAdd1 : pAdd (.int i) (.int j) Q = Q (.int (i + j)) := rfl
theorem rd_pAdd2 : pAdd (.str x) (.str y) Q = (x.length + y.length ≤ sizeLine ∧ Q (.str (x ++ y))) := rfl
theorem rd_pAdd3 : pAdd (.lst xs) (.lst ys) Q = (xs.length + ys.length ≤ sizeLine ∧ Q (.lst (xs ++ ys))) := rfl
theorem rd_pAdd4 : pAdd (.tup xs) (.tup ys) Q = (xs.length + ys.length ≤ sizeLine ∧ Q (.tup (xs ++ ys))) := rfl
theorem rd_pMul1 : pMul (.int i) (.int j) Q = (CMul i j ∧ Q (.int (i * j))) := rfl
theorem rd_pMul2 : pMul (.str x) (.int i) Q = ((i < 2 ^ 40 ∧ -(2 ^ 40) < i) ∧ x.length * i.toNat ≤ 1000000 ∧ Q (.str (Txt.mul x i))) := rfl
theorem rd_pMul3 : pMul (.lst xs) (.int i) Q = ((-(2 ^ 63) ≤ i ∧ i < 2 ^ 63) ∧ xs.length * i.toNat ≤ sizeLine ∧ Q (.lst (List.replicate i.toNat xs).flatten)) := rfl
theorem rd_pLen1 : pLen (.lst xs) Q = Q (.int xs.length) := rfl
theorem rd_pLen2 : pLen (.tup xs) Q = Q (.int xs.length) := rfl
theorem rd_pLen3 : pLen (.str x) Q = (x.length ≤ sizeLine ∧ Q (.int x.length)) := rfl
theorem rd_pInt1 : pInt1 (.int i) Q = Q (.int i) := rfl
theorem rd_pAbs : pAbs (.int i) Q = Q (.int (if i < 0 then -i else i)) := rfl
theorem rd_pList1 : pList (.lst xs) Q = Q (.lst xs) := rfl
theorem rd_pList2 : pList (.tup xs) Q = Q (.lst xs) := rfl
theorem rd_pList3 : pList (.scr ns) Q = Q (.lst (ns.map D.int)) := rfl
theorem rd_pCut1 {lo hi : Option Int} : pCut (.lst xs) lo hi Q = Q (.lst (cutD xs lo hi)) := rfl
theorem rd_pCut2 {lo hi : Option Int} : pCut (.tup xs) lo hi Q = Q (.tup (cutD xs lo hi)) := rfl
theorem rd_pCut3 {lo hi : Option Int} : pCut (.str x) lo hi Q = (x.length ≤ sizeLine ∧ Q (.str (cutS x lo hi))) := rfl
theorem rd_non1 : isNone .non = true := rfl
theorem rd_non2 : isNone (.int i) = false := rfl
theorem rd_non3 : isNone (.str x) = false := rfl
theorem rd_non4 : isNone (.lst xs) = false := rfl
theorem rd_non5 : isNone (.tup xs) = false := rfl
theorem rd_non6 : isNone (.bl b) = false := rfl
theorem rd_isStr : isStr (.str x) = true := rfl
theorem rd_pIx1 : pIx (.lst xs) (.int i) Q ↔ ∃ d, atI xs i = some d ∧ Q d := by
  simp only [pIx]
  cases h : atI xs i <;> simp
theorem rd_pIx2 : pIx (.tup xs) (.int i) Q ↔ ∃ d, atI xs i = some d ∧ Q d := by
  simp only [pIx]
  cases h : atI xs i <;> simp
theorem rd_pIx3 : pIx (.str x) (.int i) Q ↔ x.length ≤ sizeLine ∧ ∃ c, atI x.cps.toList i = some c ∧ Q (.str ⟨#[c]⟩) := by
  unfold pIx
  cases h : atI x.cps.toList i <;> simp [h]
theorem rd_pJoin1 : pJoin (.str x) (.lst xs) Q ↔ ∃ ys : List Str, xs = ys.map D.str ∧ joinOk x ys ∧ Q (.str (Txt.join x ys)) := by
  have e : pJoin (.str x) (.lst xs) Q = (match strsOf xs with
    | some ys => joinOk x ys ∧ Q (.str (Txt.join x ys))
    | none => False) := rfl
  rw [e]
  cases h : strsOf xs with
  | none => exact ⟨False.elim, fun ⟨ys, e, _⟩ => by subst e; rw [strsOf_map] at h; cases h⟩
  | some ys =>
    have := of_strsOf h
    subst this
    constructor
    · exact fun q => ⟨ys, rfl, q⟩
    · rintro ⟨zs, e, q⟩
      rw [e, strsOf_map] at h
      cases h
      exact q
theorem rd_upS1 {d2 : D} : upSlot (some (.own d)) (.par d2) = .own d2 := rfl
theorem rd_upS2 {d2 : D} : upSlot (some (.par d)) (.par d2) = .par d2 := rfl
theorem rd_out1 : outOf (.par d) = .par d := rfl
theorem rd_out2 : outOf (.frz d) = .nil := rfl
theorem rd_out3 : outOf (.own d) = .nil := rfl
theorem rd_out4 : outOf .nil = .nil := rfl
theorem rd_asL1 : asL (.own (.lst xs)) = some xs := rfl
theorem rd_asL2 : asL (.par (.lst xs)) = some xs := rfl
theorem rd_putL1 : putL ys (.own d) = .own (.lst ys) := rfl
theorem rd_putL2 : putL ys (.par d) = .par (.lst ys) := rfl
theorem rd_stA : D.sol stA = false := rfl
theorem isiOk_no {t n : String} (h : t = n ∨ True) : True := trivial
theorem rd_isi1 : pIsi (.int i) (.ty "int") Q ↔ Q (.bl true) := by simp [pIsi, tyD]
theorem rd_isi2 : pIsi (.str x) (.ty "str") Q ↔ Q (.bl true) := by simp [pIsi, tyD]
theorem rd_isi3 : pIsi (.lst xs) (.ty "list") Q ↔ Q (.bl true) := by simp [pIsi, tyD]
theorem rd_isi4 : pIsi (.tup xs) (.ty "tuple") Q ↔ Q (.bl true) := by simp [pIsi, tyD]
theorem rd_isX {C c : Addr} {f : Str} {a' dd' : Addr} : pIsX a dd C b (.exc a' dd' f d) (.cls c) Q = (a' = a ∧ dd' = dd ∧ c = C ∧ Q (.bl b)) := rfl
end
/-! ### slices of texts -/
theorem cutS_mid {z : Str} {i j : Nat} {lo hi : Int} (h1 : lo = i) (h2 : hi = j) (hij : i ≤ j) (hj : j ≤ z.length) : cutS z (some lo) (some hi) = SX.S ((z.cps.toList.drop i).take (j - i)) := by
  subst h1 h2
  unfold cutS
  rw [HT.sIx_nat z.length z.length j, HT.sIx_nat z.length 0 i, Nat.min_eq_left (Nat.le_trans hij hj), Nat.min_eq_left hj]
end Pu
namespace Pu
open PySem PySem.Spec L2
theorem str_inj : ∀ {a b : List Str}, a.map D.str = b.map D.str → a = b
  | [], [], _ => rfl
  | [], _ :: _, h => by simp at h
  | _ :: _, [], h => by simp at h
  | x :: xs, y :: ys, h => by
    simp only [List.map_cons, List.cons.injEq, D.str.injEq] at h
    rw [h.1, str_inj h.2]
theorem psOf_iff {α : Type} {A : α → List Slot} {R : α → (Slot → Env → Prop) → XP → Prop} (x : α) {Q : Slot → Env → Prop} {X : XP} (inj : ∀ y, A x = A y → x = y) : psOf A R (A x) Q X ↔ R x Q X := by
  constructor
  · rintro ⟨y, e, h⟩
    rw [inj y e]
    exact h
  · exact fun h => ⟨x, rfl, h⟩
theorem rd_draw {m : Int} {Q : Slot → Env → Prop} {X : XP} : psDraw [.par stA, .frz (.int m)] Q X ↔ m < 1073741824 ∧ ∀ v, 0 ≤ v → (v < m ∨ v = 0) → Q (.frz (.int v)) [.par stA, .nil] := by
  constructor
  · rintro ⟨y, e, h⟩
    cases e
    exact h
  · exact fun h => ⟨m, rfl, h⟩
end Pu

set_option Elab.async false
set_option linter.all false
set_option maxRecDepth 100000
namespace Pu
open PySem PySem.Spec PyProof.Rows
open L2
/-! ### defs that ask for repr: no guard is up around them -/
def NoG (A : Around) : Prop := A.guards = some []
structure FnOkG (P : Program) (w : World) (K : PySem.W.Frag) (mg : PySem.Str → Option Value) (base : Heap) (CX : CXT) (k : Nat) (f : Addr) (fd : FuncData) (ps : List PySem.Str) (sp : Sp) : Prop where
  size : ∀ vs H Q E, sp vs H Q E → vs.length = ps.length
  go : ∀ (A : Around) (fr : List PySem.Env) (s : Shared) (H : Hp) (as : Args) (us : List Value) (vs : List V) (Q : VK) (E : XK), NoG A → Room k A → Env0 P w K mg base A fr s H → BindsTo s fd as (ps.zip us) → Vals vs us → sp vs H Q E →
    codeAny (model P w) A (.call (.ref f) as) (CR CX fr P w H s Q E) s
section
variable {P : Program} {w : World} {K : PySem.W.Frag} {mg : PySem.Str → Option Value} {base : Heap} {CX : CXT} {k : Nat} {f : Addr} {fd : FuncData} {ps N : List PySem.Str} {sp : Sp} {x qual : PySem.Str} {params : Arguments} {body : List Stmt} {scope : Scope} {dvs : List V} {kws : List (PySem.Str × V)}
theorem okG (F : FnOk P w K mg base CX k f fd ps sp) : FnOkG P w K mg base CX k f fd ps sp := ⟨F.len, fun A fr s H as us vs Q E _ => F.run A fr s H as us vs Q E⟩
theorem okG_of (F : FunD K x qual params body scope dvs kws f fd) (S : FnScope N ps scope) (size : ∀ vs H Q E, sp vs H Q E → vs.length = ps.length)
    (run : ∀ (cdv : Value) (A : Around) (fr : List PySem.Env) (s : Shared) (H : Hp) (vs : List V) (Q : VK) (E : XK), NoG A → Room k (A.deeper (envOfC qual scope s.heap.objs.size f cdv)) → sp vs H Q E →
      ∃ t, PSs (cxOf CX P w K mg base N qual scope f cdv A fr s H E) body t ∧ t { nx := fun _ H' => Q .non H', rt := Q } (L2.start N vs) H) : FnOkG P w K mg base CX (k + 1) f fd ps sp where
  size := size
  go := by
    intro A fr s H as us vs Q E ng room e0 bind rv pre
    obtain ⟨oc, od, dV, kV, doc, pm, an, cdv, ct, osl, rfl, lk, code, _, _⟩ := F.ex
    have old : ∀ b o, base.get? b = some o → s.heap.get? b = some o := fun b o q => (e0.bs b o q).1
    have kin : K.In s.heap := e0.mod.kin.keeps old
    have free := e0.mod.nolimit.keeps old
    have kinds : ∀ z ∈ ps.zip us, scope.names.lookup z.1 = some .local ∨ (scope.names.lookup z.1 = some .cell ∧ ((cellsFrom (s.heap.objs.size + 1) scope.names []).lookup z.1).isSome = true) := by
      intro z hz
      exact (S.par z.1 (List.of_mem_zip hz).1).imp id fun c => ⟨c, PySem.W.cellsFrom_some _ _ _ (.inl c)⟩
    refine codeAny_call_function room.depth (kin _ _ lk) rfl S.co S.gen rfl (PySem.W.codeRec_of kin code) (bind _ _ _ _ (wpAny_newFunctionEnv_cells S.kind kinds fun en hen s1 new => ?_))
    subst hen
    refine ⟨free.keeps new.toInCall.keep, codeAny_func ?_⟩
    obtain ⟨t, walk, want⟩ := run cdv A fr s H vs Q E ng (room.deeper _) pre
    have inv : Inv (cxOf CX P w K mg base N qual scope f cdv A fr s H E) [] (L2.start N vs) H s1 := inv_start S room.hd e0 (size _ _ _ _ pre) rv new
    refine wpAny_mono (walk.run [] s1 (L2.start N vs) H _ inv want) (fun fl s2 q => ?_) fun _ _ q => q
    cases fl with
    | next =>
      obtain ⟨σ', H', J, q⟩ := q
      exact ⟨V.non, H', J.os, J.bare, J.base, J.hok, rfl, q⟩
    | ret u =>
      obtain ⟨v, σ', H', J, r, q⟩ := q
      exact ⟨v, H', J.os, J.bare, J.base, J.hok, r, q⟩
    | cont =>
      obtain ⟨_, _, _, q⟩ := q
      cases q
    | brk =>
      obtain ⟨_, _, _, q⟩ := q
      cases q
end
section
variable {X : Cx} {CX : CXT} {k : Nat} {f : Addr} {fd : FuncData} {ps : List PySem.Str} {sp : Sp} {x : PySem.Str} {p pos : Pos} {e : Expr} {es : List Expr} {t : TA} {E : XK}
/-- a call of one of them -/
theorem pe_callG (F : FnOkG X.prog X.w X.K X.mg X.base CX k f fd ps sp) (ng : NoG X.A) (room : Room k X.A) (gl : Gl X x) (at_ : X.mg x = some (.ref f)) (kp : PySem.W.keepIn X.K (.ref f) = true) (bd : Binds X.K fd ps []) (px : Passes CX X E)
    (ha : PA X (e :: es) t) (nd : (x == ("__debug__" : PySem.Str)) = false := by decide) (hs : starEach (e :: es) X.env = (false, eval e X.env) :: starEach es X.env := by rfl) (hp : (backTo pos (starEach es X.env)).any (·.1) = false := by rfl) :
    PE X (.Call (.Name x p) (e :: es) [] pos) (tCall sp [] E t) := by
  refine ⟨fun pins s σ H Q I h => wpAny_Call_Name_kw (ld_glob I gl at_ ?_ nd)⟩
  refine PySem.W.callWith_K (h₀ := X.base) I.ok.mod.kin kp (thn (ha.run pos pins s σ H _ I h) fun us s1 z => ?_) hs hp
  obtain ⟨vs, H1, J, rv, pre⟩ := z
  rw [List.append_nil] at pre
  have len : (us ++ []).length = ps.length := by rw [List.append_nil, ← rv.length]; exact F.size _ _ _ _ pre
  have bind := bd s1 us J.kIn len
  rw [List.append_nil] at bind
  refine ⟨J.kIn, wpAny_call (codeAny_mono (F.go X.A X.stack s1 H1 ⟨us, []⟩ us vs Q E ng room J.env0 bind rv pre) fun r s2 q => ?_)⟩
  match r, q with
  | .error er, q => exact px pins σ H1 s1 er s2 J q
  | .ok (.ret u), q => exact J.after q
end
end Pu

set_option Elab.async false
set_option linter.all false
set_option maxRecDepth 100000
namespace Pu
open PySem PySem.Spec PyProof.Rows
open L2
theorem callerG : NoG callerA := rfl
section
variable {P : Program} {w : World} {K : PySem.W.Frag} {mg mb : PySem.Str → Option Value} {k : Nat} {fa a : Addr} {fd : FuncData} {x : PySem.Str} {sp : Sp} {s1 : Shared} {its : List Value} {ns : List Int}
def scrO (its : List Value) : Obj := { cls := .type "list", data := .seq its.toArray }
/-- what is told of the heap ahead of the law: the script, if it is not the module's own -/
def scrH (K : PySem.W.Frag) (a : Addr) (its : List Value) (ns : List Int) : Hp := fun b => if b = a ∧ (K.lookup a).isNone = true then some (.frz (scrO its) (.lst (ns.map V.int))) else none
theorem scrH_only : Only (scrH K a its ns) := fun b => by
  unfold scrH
  split
  · exact .inr ⟨_, _, rfl⟩
  · exact .inl rfl
theorem scrH_some {b : Addr} {o : HO} (h : scrH K a its ns b = some o) : b = a ∧ K.lookup a = none ∧ o = .frz (scrO its) (.lst (ns.map V.int)) := by
  unfold scrH at h
  split at h
  · rename_i c
    exact ⟨c.1, Option.isNone_iff_eq_none.mp c.2, (Option.some.inj h).symm⟩
  · cases h
theorem ints_vals (hi : IntsAre its ns) : Vals (ns.map V.int) its := vals_ints hi
theorem scrH_sq (kin : K.In s1.heap) (ha : s1.heap.get? a = some (scrO its)) (hi : IntsAre its ns) (hl : ns.length ≤ sizeLine) : SqL K (scrH K a its ns) a (ns.map V.int) := by
  cases q : K.lookup a with
  | none =>
    refine .inl (.inr ⟨scrO its, ?_⟩)
    unfold scrH
    rw [if_pos ⟨rfl, by rw [q]; rfl⟩]
  | some o =>
    have e := (kin a o q).symm.trans ha
    cases e
    exact .inr ⟨_, its.toArray, _, q, rfl, rfl, rfl, by rw [List.size_toArray, hi.length]; exact hl, by simpa using ints_vals hi⟩
theorem scrH_ok (ha : s1.heap.get? a = some (scrO its)) (hi : IntsAre its ns) (hl : ns.length ≤ sizeLine) : HOk P w (scrH K a its ns) s1.heap := fun b u z => by
  obtain ⟨rfl, _, rfl⟩ := scrH_some z
  exact ⟨ha, by rw [List.length_map]; exact hl, its, _, ints_vals hi, ha⟩
/-- the law's call, no guard being up -/
theorem lawG (kin : K.In s1.heap) (hns : s1.heap.Ns mainGlobals mg) (hb : s1.heap.Ns builtinsNs mb) (hbb : ∀ y : PySem.Str, y ≠ "__name__" → mb y = bootBuiltins y) (hlim : s1.heap.NoLimit) (hg : s1.gens = #[])
    (ha : s1.heap.get? a = some (scrO its)) (hi : IntsAre its ns) (hl : ns.length ≤ sizeLine) (room : Room k callerA)
    (F : ∀ base : Heap, K.In base → base.Ns mainGlobals mg → FnOkG P w K mg base CX0 k fa fd [x] sp) (bind : ∀ (s : Shared) (u : Value), BindsTo s fd ⟨[u], []⟩ [(x, u)])
    (pre : ∀ H : Hp, SqL K H a (ns.map V.int) → sp [.ref a] H (fun v _ => v = .bl true) fun _ _ _ => False) :
    codeAny (model P w) callerA (.call (.ref fa) ⟨[.ref a], []⟩) (fun r s2 => r = .ok (.ret (.bool true)) ∧ OldK s1.heap s2.heap ∧ s2.os = s1.os ∧ AllBare s2.gens) s1 := by
  let H := scrH K a its ns
  have ok : HOk P w H s1.heap := scrH_ok ha hi hl
  have out : ∀ {b : Addr} {o : Obj}, s1.heap.get? b = some o → (b ≠ a ∨ (K.lookup a).isSome = true) → (hidT s1.heap H).get? b = some o := fun {b o} e d => hidT_get e (by
    cases q : H b with
    | none => rfl
    | some u =>
      obtain ⟨h1, h2, _⟩ := scrH_some q
      rcases d with d | d
      · exact absurd h1 d
      · rw [h2] at d; cases d)
  have nd : ∀ {b : Addr} {o : Obj} {es : Array DictEntry} {ep : Nat}, s1.heap.get? b = some o → o.data = .dict es ep → b ≠ a := fun {b o es ep} e d z => by
    subst z
    have q := ha.symm.trans e
    cases q
    exact Data.noConfusion d
  have ns' : ∀ {b : Addr} {m : PySem.Str → Option Value}, s1.heap.Ns b m → (hidT s1.heap H).Ns b m := fun {b m} z => by
    obtain ⟨o, es, ep, e, d, r⟩ := z
    exact ⟨o, es, ep, out e (.inl (nd e d)), d, r⟩
  have kb : K.In (hidT s1.heap H) := fun b o e => out (kin b o e) (by
    by_cases z : b = a
    · subst z; exact .inr (by rw [e]; rfl)
    · exact .inl z)
  obtain ⟨mc, l1, l2⟩ := hlim
  have md : Mod K mg (hidT s1.heap H) := ⟨kb, ns' hns, ⟨mb, ns' hb, hbb⟩, ⟨mc, ns' l1, l2⟩⟩
  have e0 : Env0 P w K mg (hidT s1.heap H) callerA [] s1 H :=
    { frames := rfl, mod := md, bs := fun b o e => of_hidT e, bsz := Nat.le_of_eq (hidT_size _ _), funs := trivial, frf := fun b z => (nomatch z), hok := ok, bare := .of_eq hg }
  refine codeAny_mono ((F _ kb (ns' hns)).go callerA [] s1 H ⟨[.ref a], []⟩ [.ref a] [.ref a] _ _ callerG room e0 (bind s1 (.ref a)) (.cons rfl .nil) (pre H (scrH_sq kin ha hi hl))) fun r s2 h => ?_
  match r, h with
  | .ok (.ret u), h =>
    obtain ⟨v, H2, os, bare, un, ok2, rv, rfl⟩ := h
    obtain rfl : u = Value.bool true := rv
    refine ⟨rfl, OldK.of_keep fun b o e => ?_, os, bare⟩
    cases q : H b with
    | none => exact un.keep b o e q (fun z => by cases z) (fun z => by cases z)
    | some u =>
      obtain ⟨rfl, _, rfl⟩ := scrH_some q
      have c := (ok2 b _ (un.frzs b _ _ q)).1
      have := ha.symm.trans e
      cases this
      exact c
end
/-- the head's goal, from the law's promise at no guard -/
theorem walk_ofG {l : PySem.W.OpenLaw} {n k : Nat} {q : Program} {loose : List PySem.Str} {XP : (PySem.Str → Option Value) → Heap → Prop} {YP : World → Heap → Prop} {d : DefRec} {x : PySem.Str}
    (hn : l.most = some n) (small : n ≤ sizeLine) (plain : d.params.defaults = []) (room : Room k callerA)
    (F : ∀ (w : World) (mg : PySem.Str → Option Value) (fa : Addr) (h : Heap), YP w h → h.Ns mainGlobals mg → mg d.name = some (.ref fa) →
      ∃ (K : PySem.W.Frag) (fd : FuncData) (sp : Sp), K.In h ∧ (∀ (s : Shared) (u : Value), BindsTo s fd ⟨[u], []⟩ [(x, u)]) ∧
        (∀ (H : Hp) (a : Addr) (ns : List Int), ns.length ≤ n → SqL K H a (ns.map V.int) → sp [.ref a] H (fun v _ => v = .bl true) fun _ _ _ => False) ∧
        ∀ base : Heap, K.In base → base.Ns mainGlobals mg → FnOkG l.prog w K mg base CX0 k fa fd [x] sp) :
    PySem.W.WalkO q loose XP YP l.row.toRowW d [] (fun f vs => PySem.call f vs) :=
  Att.attach_call hn plain fun w s0 s1 mg mb fa o pm cd doc a vs ns G Y ho hd hcd hmg hobj hints hlen hg => by
    obtain ⟨K, fd, sp, kin, bind, pre, ok⟩ := F w mg fa _ Y G.T.g hmg
    exact lawG kin G.T.g G.T.b G.T.builtins G.T.nolimit hg hobj hints (Nat.le_trans hlen small) room ok bind fun H hS => pre H a ns hlen hS
end Pu

set_option Elab.async false
set_option linter.all false
set_option maxRecDepth 100000
namespace Pu
open PySem PySem.Spec PyProof.Rows
open L2
/-! ### data as the reads tell it -/
section
variable {X : Cx}
def rRepr (K : PySem.W.Frag) : List V → Hp → VK → Prop := fun xs H Q => ∃ x d, xs = [x] ∧ Dp K H x d ∧ d.showable = true ∧ d.hasDict = false ∧ d.depth ≤ 60 ∧ d.shown.length ≤ sizeLine ∧ Q (.str d.shown) H
theorem call_reprD (ng : NoG X.A) (hu : X.A.units + 64 < cLine) : CallR X (.builtin "repr") (rRepr X.K) := by
  intro pins s σ H xs us Q I r h
  obtain ⟨x, d, rfl, hd, hs, hn, hp, hz, q⟩ := h
  match us, r with
  | [u], .cons rx .nil =>
    obtain ⟨as, rd⟩ := Dp.reads I d x u hd rx
    have big : isDisplay d = true → wpAny (model X.prog X.w) X.A (call (.builtin "repr") [u]) (EP X pins σ Q) X.xe s := fun hi => by
      obtain ⟨a, rfl⟩ := isRef_of_reads rd hi
      exact repr_of_reads' rd hs (PyData.noDict_hsm hn) ng (by omega) (fun _ _ e => e) (fun h2 t k old => ⟨.str d.shown, H, I.kept fun b o e => old b o e, ⟨t, rfl⟩, q⟩) hz
    cases d with
    | none =>
      cases rd
      exact PySem.P.repr_of_none ⟨.str _, H, I.tok _, ⟨_, rfl⟩, by simpa [PyData.shown] using q⟩
    | bool b =>
      cases rd
      exact PySem.P.repr_of_bool ⟨.str _, H, I.tok _, ⟨_, rfl⟩, by simpa [PyData.shown] using q⟩
    | int i =>
      cases rd
      exact PySem.P.repr_of_int (by simpa [PyData.showable] using hs) ⟨.str _, H, I.tok _, ⟨_, rfl⟩, by simpa [PyData.shown] using q⟩
    | str y =>
      cases rd
      exact PySem.P.repr_of_str ⟨.str _, H, I.tok _, ⟨_, rfl⟩, by simpa [PyData.shown] using q⟩ (by simpa [PyData.shown] using hz)
    | list ds => exact big rfl
    | tuple ds => exact big rfl
    | dict kvs => simp [PyData.hasDict] at hn
/-- < and the like -/
def rCmp (K : PySem.W.Frag) (f : PyData → PyData → Bool) : R2 := fun x y H Q => ∃ d e, Dp K H x d ∧ Dp K H y e ∧ PySem.W.alike d e = true ∧ d ≠ .none ∧ d.depth ≤ 60 ∧ Q (.bl (f d e)) H
theorem op_ltD (hu : X.A.units + 64 < cLine) : OpR X (compareOp .Lt) (rCmp X.K fun d e => PySem.W.dataLt d e) := by
  intro pins s σ H x y v u Q I rx ry ⟨d, e, hd, he, al, nn, dp, q⟩
  obtain ⟨as, r1⟩ := Dp.reads I d x v hd rx
  obtain ⟨bs, r2⟩ := Dp.reads I e y u he ry
  exact PySem.W.lt_data r1 r2 al nn (by omega) ⟨.bl _, H, I, rfl, q⟩
theorem op_gtD (hu : X.A.units + 64 < cLine) : OpR X (compareOp .Gt) (rCmp X.K fun d e => PySem.W.dataLt e d) := by
  intro pins s σ H x y v u Q I rx ry ⟨d, e, hd, he, al, nn, dp, q⟩
  obtain ⟨as, r1⟩ := Dp.reads I d x v hd rx
  obtain ⟨bs, r2⟩ := Dp.reads I e y u he ry
  exact PySem.W.gt_data r1 r2 al nn (by omega) ⟨.bl _, H, I, rfl, q⟩
theorem op_leD (hu : X.A.units + 64 < cLine) : OpR X (compareOp .LtE) (rCmp X.K fun d e => !PySem.W.dataLt e d) := by
  intro pins s σ H x y v u Q I rx ry ⟨d, e, hd, he, al, nn, dp, q⟩
  obtain ⟨as, r1⟩ := Dp.reads I d x v hd rx
  obtain ⟨bs, r2⟩ := Dp.reads I e y u he ry
  exact PySem.W.le_data r1 r2 al nn (by omega) ⟨.bl _, H, I, rfl, q⟩
theorem op_geD (hu : X.A.units + 64 < cLine) : OpR X (compareOp .GtE) (rCmp X.K fun d e => !PySem.W.dataLt d e) := by
  intro pins s σ H x y v u Q I rx ry ⟨d, e, hd, he, al, nn, dp, q⟩
  obtain ⟨as, r1⟩ := Dp.reads I d x v hd rx
  obtain ⟨bs, r2⟩ := Dp.reads I e y u he ry
  exact PySem.W.ge_data r1 r2 al nn (by omega) ⟨.bl _, H, I, rfl, q⟩
/-- x in a tuple -/
def rInT (K : PySem.W.Frag) (neg : Bool) : R2 := fun x y H Q => ∃ d ds, Dp K H x d ∧ Dp K H y (.tuple ds) ∧ SeqAt.shaped d = true ∧ SeqAt.shaped (.tuple ds) = true ∧ Q (.bl (neg ^^ ds.any fun z => PyData.eqv z d)) H
theorem room_tup {A : Around} {d : PyData} {ds : List PyData} (sd : SeqAt.shaped d = true) (hu : A.units + 65 < cLine) : A.units + 1 + min (PyData.depthAll ds) d.depth < cLine := by
  have h : d.depth ≤ 64 := by
    unfold SeqAt.shaped at sd
    have := (Bool.and_eq_true_iff.mp sd)
    rcases this with ⟨a, b⟩
    first
      | exact Nat.le_of_lt (of_decide_eq_true b)
      | exact of_decide_eq_true b
  omega
end
end Pu

set_option Elab.async false
set_option linter.all false
set_option maxRecDepth 100000
namespace Pu
open PySem PySem.Spec PyProof.Rows
open L2
theorem room65 {k : Nat} {A : Around} (hr : Room k A) : A.units + 65 < cLine := by have := hr.un; omega
theorem room64 {k : Nat} {A : Around} (hr : Room k A) : A.units + 64 < cLine := by have := hr.un; omega
section
variable {X : Cx}
theorem op_inT (hu : X.A.units + 65 < cLine) : OpR X (compareOp .In) (rInT X.K false) := by
  intro pins s σ H x y v u Q I rx ry ⟨d, ds, hd, he, sd, se, q⟩
  obtain ⟨as, r1⟩ := Dp.reads I d x v hd rx
  obtain ⟨bs, r2⟩ := Dp.reads I (.tuple ds) y u he ry
  exact SeqAt.in_tuple_reads r2 r1 (SeqAt.canLay_of_shaped se) (SeqAt.canLay_of_shaped sd) (room_tup sd hu) ⟨.bl _, H, I, rfl, by rw [Bool.false_xor] at q; exact q⟩
theorem op_notInT (hu : X.A.units + 65 < cLine) : OpR X (compareOp .NotIn) (rInT X.K true) := by
  intro pins s σ H x y v u Q I rx ry ⟨d, ds, hd, he, sd, se, q⟩
  obtain ⟨as, r1⟩ := Dp.reads I d x v hd rx
  obtain ⟨bs, r2⟩ := Dp.reads I (.tuple ds) y u he ry
  exact SeqAt.notIn_tuple_reads r2 r1 (SeqAt.canLay_of_shaped se) (SeqAt.canLay_of_shaped sd) (room_tup sd hu) ⟨.bl _, H, I, rfl, by rw [Bool.true_xor] at q; exact q⟩
/-- x in c: a sign in a text, data in a list or a tuple -/
def rInU (K : PySem.W.Frag) : R2 := fun x y H Q => (∃ (c : Nat) (z : PySem.Str), x = .str ⟨#[c]⟩ ∧ y = .str z ∧ Q (.bl (decide (c ∈ z.cps.toList))) H) ∨ rInD K x y H Q ∨ rInT K false x y H Q
def rNotInU (K : PySem.W.Frag) : R2 := fun x y H Q => (∃ (c : Nat) (z : PySem.Str), x = .str ⟨#[c]⟩ ∧ y = .str z ∧ Q (.bl (!decide (c ∈ z.cps.toList))) H) ∨ rNotInD K x y H Q ∨ rInT K true x y H Q
theorem op_inU (hu : X.A.units + 65 < cLine) : OpR X (compareOp .In) (rInU X.K) := op_in_sign.or ((op_inD hu).or (op_inT hu))
theorem op_notInU (hu : X.A.units + 65 < cLine) : OpR X (compareOp .NotIn) (rNotInU X.K) := op_notIn_sign.or ((op_notInD hu).or (op_notInT hu))
def rLtU (K : PySem.W.Frag) : R2 := fun x y H Q => rI0 (fun i j => .bl (decide (i < j))) x y H Q ∨ rCmp K (fun d e => PySem.W.dataLt d e) x y H Q
def rLeU (K : PySem.W.Frag) : R2 := fun x y H Q => rI0 (fun i j => .bl (decide (i ≤ j))) x y H Q ∨ rCmp K (fun d e => !PySem.W.dataLt e d) x y H Q
def rGtU (K : PySem.W.Frag) : R2 := fun x y H Q => rI0 (fun i j => .bl (decide (j < i))) x y H Q ∨ rCmp K (fun d e => PySem.W.dataLt e d) x y H Q
def rGeU (K : PySem.W.Frag) : R2 := fun x y H Q => rI0 (fun i j => .bl (decide (j ≤ i))) x y H Q ∨ rCmp K (fun d e => !PySem.W.dataLt d e) x y H Q
theorem op_ltU (hu : X.A.units + 64 < cLine) : OpR X (compareOp .Lt) (rLtU X.K) := op_lt.or (op_ltD hu)
theorem op_leU (hu : X.A.units + 64 < cLine) : OpR X (compareOp .LtE) (rLeU X.K) := op_le.or (op_leD hu)
theorem op_gtU (hu : X.A.units + 64 < cLine) : OpR X (compareOp .Gt) (rGtU X.K) := op_gt.or (op_gtD hu)
theorem op_geU (hu : X.A.units + 64 < cLine) : OpR X (compareOp .GtE) (rGeU X.K) := op_ge.or (op_geD hu)
end
/-! ### the same by data -/
section
variable {W : Wd} {E : XK} {Xc : XP} {ta tb tc te : TE} {pa pb pc pe : PTE} {tt : TT} {pt : PTT} {Z : Addr → Prop} {σ0 : L2.St} {H G H' G' : Hp} {σ : L2.St} {env : Env} {φ : Nat → Hp}
def D.ltD (x y : D) : Bool := PySem.W.dataLt x.py y.py
def cmpOk (x y : D) : Bool := D.pl 60 x && D.pl 60 y && PySem.W.alike x.py y.py && !isNone x
theorem cmp_of {G H : Hp} (e : Same G H) {x y : V} {dx dy : D} (f1 : FR W G x dx) (f2 : FR W G y dy) (h : cmpOk dx dy = true) {f : PyData → PyData → Bool} {Q : VK} (q : Q (.bl (f dx.py dy.py)) H) : rCmp W.K f x y H Q := by
  unfold cmpOk at h
  simp only [Bool.and_eq_true, Bool.not_eq_true'] at h
  obtain ⟨⟨⟨h1, h2⟩, h3⟩, h4⟩ := h
  obtain ⟨_, a2⟩ := D.lay 60 dx h1
  refine ⟨dx.py, dy.py, dp_same e (D.dp f1 h1), dp_same e (D.dp f2 h2), h3, fun z => ?_, a2, q⟩
  cases dx <;> simp [D.py, isNone, D.pl] at z h4 h1
def pCmpD (g : Int → Int → Bool) (f : D → D → Bool) : D → D → (D → Prop) → Prop
  | .int i, .int j, Q => Q (.bl (g i j))
  | x, y, Q => cmpOk x y = true ∧ Q (.bl (f x y))
theorem pr_cmp {g : Int → Int → Bool} {f : PyData → PyData → Bool} : PurR2 W (fun x y H Q => rI0 (fun i j => .bl (g i j)) x y H Q ∨ rCmp W.K f x y H Q) (pCmpD g fun x y => f x.py y.py) := by
  intro G H x y dx dy Q Q' e f1 f2 k h
  unfold pCmpD at h
  split at h
  · cases f1
    cases f2
    exact .inl ⟨_, _, rfl, rfl, k _ _ G H (Grow.refl e) (.bl _) h⟩
  · exact .inr (cmp_of e f1 f2 h.1 (k _ _ G H (Grow.refl e) (.bl _) h.2))
def pLt := pCmpD (fun i j => decide (i < j)) D.ltD
def pLe := pCmpD (fun i j => decide (i ≤ j)) fun x y => !D.ltD y x
def pGt := pCmpD (fun i j => decide (j < i)) fun x y => D.ltD y x
def pGe := pCmpD (fun i j => decide (j ≤ i)) fun x y => !D.ltD x y
theorem pr_lt : PurR2 W (rLtU W.K) pLt := pr_cmp (f := fun d e => PySem.W.dataLt d e)
theorem pr_le : PurR2 W (rLeU W.K) pLe := pr_cmp (f := fun d e => !PySem.W.dataLt e d)
theorem pr_gt : PurR2 W (rGtU W.K) pGt := pr_cmp (f := fun d e => PySem.W.dataLt e d)
theorem pr_ge : PurR2 W (rGeU W.K) pGe := pr_cmp (f := fun d e => !PySem.W.dataLt d e)
/-- in -/
def inOk (x : D) (ds : List D) : Bool := D.pl 59 x && D.pls 59 ds && ds.all fun z => D.nm z x
theorem any_eqv : ∀ {ds : List D} {x : D}, D.pl 59 x = true → D.pls 59 ds = true → (ds.all fun z => D.nm z x) = true → ((D.pys ds).any fun z => PyData.eqv z x.py) = decide (x ∈ ds)
  | [], x, _, _, _ => by
    rw [decide_eq_false (by simp)]
    simp only [D.pys, List.any_nil]
  | d :: ds, x, h1, h2, h3 => by
    have h2' : D.pl 59 d = true ∧ D.pls 59 ds = true := by simpa only [D.pls, Bool.and_eq_true] using h2
    have h3' : D.nm d x = true ∧ (ds.all fun z => D.nm z x) = true := by simpa only [List.all_cons, Bool.and_eq_true] using h3
    have ih := any_eqv h1 h2'.2 h3'.2
    have hd := D.eqv_dec 59 59 d x h2'.1 h1 h3'.1
    simp only [D.pys, List.any_cons]
    rw [ih, hd, Bool.eq_iff_iff, Bool.or_eq_true, decide_eq_true_eq, decide_eq_true_eq, decide_eq_true_eq, List.mem_cons]
    exact ⟨fun z => z.imp (fun y => y.symm) id, fun z => z.imp (fun y => y.symm) id⟩
theorem in_of {G H : Hp} (e : Same G H) {x : V} {vs : List V} {dx : D} {ds : List D} (f1 : FR W G x dx) (f2 : FRs W G vs ds) (h : inOk dx ds = true) :
    Dp W.K H x dx.py ∧ DpAll W.K H vs (D.pys ds) ∧ SeqAt.shaped dx.py = true ∧ (PyData.canLayAll0 (D.pys ds) = true ∧ PyData.depthAll (D.pys ds) ≤ 59) ∧ ((D.pys ds).any fun z => PyData.eqv z dx.py) = decide (dx ∈ ds) := by
  unfold inOk at h
  simp only [Bool.and_eq_true] at h
  obtain ⟨⟨h1, h2⟩, h3⟩ := h
  obtain ⟨a1, a2⟩ := D.lay 59 dx h1
  have hs : SeqAt.shaped dx.py = true := by
    unfold SeqAt.shaped
    rw [a1, decide_eq_true (by omega)]; rfl
  have key : DpAll W.K H vs (D.pys ds) := D.dps (f2.mono e) h2
  exact ⟨dp_same e (D.dp f1 h1), key, hs, D.lays 59 ds h2, any_eqv h1 h2 h3⟩
def pInG (neg : Bool) : D → D → (D → Prop) → Prop
  | .str x, .str z, Q => ∃ c, x = ⟨#[c]⟩ ∧ Q (.bl (neg ^^ decide (c ∈ z.cps.toList)))
  | x, .lst ds, Q => inOk x ds = true ∧ Q (.bl (neg ^^ decide (x ∈ ds)))
  | x, .tup ds, Q => inOk x ds = true ∧ Q (.bl (neg ^^ decide (x ∈ ds)))
  | _, _, _ => False
def pIn := pInG false
def pNotIn := pInG true
theorem sh_l {ds : List PyData} (h : PyData.canLayAll0 ds = true ∧ PyData.depthAll ds ≤ 59) : SeqAt.shaped (.list ds) = true ∧ SeqAt.shaped (.tuple ds) = true := by
  have h1 : PyData.canLay0 (.list ds) = true := by simp only [PyData.canLay0]; exact h.1
  have h2 : PyData.canLay0 (.tuple ds) = true := by simp only [PyData.canLay0]; exact h.1
  have h3 : PyData.depth (.list ds) ≤ 64 := by simp only [PyData.depth]; omega
  have h4 : PyData.depth (.tuple ds) ≤ 64 := by simp only [PyData.depth]; omega
  exact ⟨Bool.and_eq_true_iff.mpr ⟨h1, decide_eq_true h3⟩, Bool.and_eq_true_iff.mpr ⟨h2, decide_eq_true h4⟩⟩
theorem pr_in : PurR2 W (rInU W.K) pIn := by
  intro G H x y dx dy Q Q' e f1 f2 k h
  unfold pIn pInG at h
  split at h
  · cases f1; cases f2
    obtain ⟨c, rfl, q⟩ := h
    rw [Bool.false_xor] at q
    exact .inl ⟨c, _, rfl, rfl, k _ _ G H (Grow.refl e) (.bl _) q⟩
  · cases f2
    rename_i hs t
    obtain ⟨a, b, c, d, q⟩ := in_of e f1 t h.1
    rw [Bool.false_xor, ← q] at h
    exact .inr (.inl ⟨_, _, a, .lst (SqL.of (e _ _ hs)) b, c, (sh_l d).1, k _ _ G H (Grow.refl e) (.bl _) h.2⟩)
  · cases f2
    rename_i hs t
    obtain ⟨a, b, c, d, q⟩ := in_of e f1 t h.1
    rw [← q] at h
    exact .inr (.inr ⟨_, _, a, .tup (sqt_mono e hs) b, c, (sh_l d).2, k _ _ G H (Grow.refl e) (.bl _) h.2⟩)
  · exact h.elim
theorem pr_notin : PurR2 W (rNotInU W.K) pNotIn := by
  intro G H x y dx dy Q Q' e f1 f2 k h
  unfold pNotIn pInG at h
  split at h
  · cases f1; cases f2
    obtain ⟨c, rfl, q⟩ := h
    rw [Bool.true_xor] at q
    exact .inl ⟨c, _, rfl, rfl, k _ _ G H (Grow.refl e) (.bl _) q⟩
  · cases f2
    rename_i hs t
    obtain ⟨a, b, c, d, q⟩ := in_of e f1 t h.1
    rw [Bool.true_xor, ← q] at h
    exact .inr (.inl ⟨_, _, a, .lst (SqL.of (e _ _ hs)) b, c, (sh_l d).1, k _ _ G H (Grow.refl e) (.bl _) h.2⟩)
  · cases f2
    rename_i hs t
    obtain ⟨a, b, c, d, q⟩ := in_of e f1 t h.1
    rw [← q] at h
    exact .inr (.inr ⟨_, _, a, .tup (sqt_mono e hs) b, c, (sh_l d).2, k _ _ G H (Grow.refl e) (.bl _) h.2⟩)
  · exact h.elim
end
end Pu

set_option Elab.async false
set_option linter.all false
set_option maxRecDepth 100000
namespace Pu
open PySem PySem.Spec PyProof.Rows
open L2
/-! ### the texts of data -/
mutual
/-- no longer than this -/
def D.rc : D → Nat
  | .bl _ => 5
  | .non => 4
  | .int _ => 22
  | .str x => 10 * x.length + 2
  | .tup xs => D.rcs xs + 3
  | .lst xs => D.rcs xs + 3
  | _ => 0
def D.rcs : List D → Nat
  | [] => 0
  | d :: ds => D.rc d + 2 + D.rcs ds
end
mutual
/-- ints of at most 20 digits -/
def D.rok : D → Bool
  | .int i => decide (i.natAbs < 10 ^ 20)
  | .tup xs => D.roks xs
  | .lst xs => D.roks xs
  | _ => true
def D.roks : List D → Bool
  | [] => true
  | d :: ds => D.rok d && D.roks ds
end
theorem list_text : ∀ ts : List PySem.Str, (listText ts).length ≤ piled ts + 2
  | [] => by decide +kernel
  | t :: ts => by
    have h := textFrom_length_pos ts 1 (Str.ofString "[" ++ (Str.ofString "" ++ t)) (by decide)
    unfold listText
    rw [Str.length_append]
    have e1 : (Str.ofString "]").length = 1 := by decide +kernel
    have e2 : (Str.ofString "[").length = 1 := by decide +kernel
    have : (textFrom 0 "[" (t :: ts)).length ≤ 1 + t.length + piled ts := by
      have e : textFrom 0 "[" (t :: ts) = textFrom 1 ((Str.ofString "[" ++ Str.ofString "") ++ t) ts := rfl
      rw [e, textFrom_length_pos ts 1 _ (by decide)]
      simp only [Str.length_append, e2, show (Str.ofString "").length = 0 from by decide +kernel]
      omega
    rw [piled_cons, e1]
    omega
theorem tup_text (ts : List PySem.Str) : (tupleText ts).length ≤ piled ts + 3 := by
  unfold tupleText
  rw [Str.length_append, Str.length_append]
  have e1 : ((("(" : String) : PySem.Str)).length = 1 := by decide +kernel
  have e2 : (((if ts.length == 1 then ",)" else ")" : String) : PySem.Str)).length ≤ 2 := by split <;> decide +kernel
  by_cases h : ts = []
  · subst h; decide +kernel
  · have := join_length_add ts h
    omega
theorem okStr_lt {x : PySem.Str} (h : okStr x = true) : ∀ c ∈ x.cps.toList, c < 16 ^ 8 := fun c hc => by
  unfold okStr at h
  rw [← Array.all_toList, List.all_eq_true] at h
  have := of_decide_eq_true (h c hc)
  omega
mutual
theorem D.shown_le : ∀ (n : Nat) (d : D), D.pl n d = true → D.rok d = true → d.py.showable = true ∧ d.py.hasDict = false ∧ d.py.shown.length ≤ D.rc d
  | _, .non, _, _ => by
    simp only [D.py, PyData.showable, PyData.hasDict, PyData.shown, D.rc]
    exact ⟨trivial, trivial, by decide +kernel⟩
  | _, .bl b, _, _ => by
    simp only [D.py, PyData.showable, PyData.hasDict, PyData.shown, D.rc]
    exact ⟨trivial, trivial, by cases b <;> decide +kernel⟩
  | _, .int i, _, h => by
    have h' : i.natAbs < 10 ^ 20 := of_decide_eq_true h
    simp only [D.py, PyData.showable, PyData.hasDict, PyData.shown, D.rc]
    have hl := int_text_length_le10 (a := i) (k := 20) (by decide) h'
    refine ⟨decide_eq_true ?_, trivial, ?_⟩
    · by_cases h0 : i.natAbs = 0
      · rw [h0]; decide
      · have : i.natAbs.log2 < 67 := (Nat.log2_lt h0).mpr (by omega)
        omega
    · have e : (Str.ofString (toString i)).length = (toString i).length := PySem.ofString_length _
      show (Str.ofString (toString i)).length ≤ 22
      omega
  | _, .str x, h, _ => by
    have h' : okStr x = true := by simpa only [D.pl] using h
    simp only [D.py, PyData.showable, PyData.hasDict, PyData.shown, D.rc]
    exact ⟨trivial, trivial, StrLaws.reprText_len x (okStr_lt h')⟩
  | n + 1, .tup xs, h, q => by
    obtain ⟨a, b, c⟩ := D.showns_le n xs (by simpa only [D.pl] using h) (by simpa only [D.rok] using q)
    simp only [D.py, PyData.showable, PyData.hasDict, PyData.shown, D.rc]
    have := tup_text (PyData.shownAll (D.pys xs))
    exact ⟨a, b, by omega⟩
  | n + 1, .lst xs, h, q => by
    obtain ⟨a, b, c⟩ := D.showns_le n xs (by simpa only [D.pl] using h) (by simpa only [D.rok] using q)
    simp only [D.py, PyData.showable, PyData.hasDict, PyData.shown, D.rc]
    have := list_text (PyData.shownAll (D.pys xs))
    exact ⟨a, b, by omega⟩
  | 0, .tup _, h, _ => by simp [D.pl] at h
  | 0, .lst _, h, _ => by simp [D.pl] at h
  | 0, .dct _ _, h, _ => by simp [D.pl] at h
  | 0, .hdl _ _, h, _ => by simp [D.pl] at h
  | 0, .cls _, h, _ => by simp [D.pl] at h
  | 0, .ty _, h, _ => by simp [D.pl] at h
  | 0, .exc _ _ _ _, h, _ => by simp [D.pl] at h
  | 0, .scr _, h, _ => by simp [D.pl] at h
  | _ + 1, .scr _, h, _ => by simp [D.pl] at h
  | _ + 1, .ty _, h, _ => by simp [D.pl] at h
  | _ + 1, .exc _ _ _ _, h, _ => by simp [D.pl] at h
  | _ + 1, .dct _ _, h, _ => by simp [D.pl] at h
  | _ + 1, .hdl _ _, h, _ => by simp [D.pl] at h
  | _ + 1, .cls _, h, _ => by simp [D.pl] at h
theorem D.showns_le : ∀ (n : Nat) (ds : List D), D.pls n ds = true → D.roks ds = true → PyData.showableAll (D.pys ds) = true ∧ PyData.hasDictAll (D.pys ds) = false ∧ piled (PyData.shownAll (D.pys ds)) ≤ D.rcs ds
  | _, [], _, _ => by
    simp only [D.pys, PyData.showableAll, PyData.hasDictAll, PyData.shownAll, D.rcs]
    exact ⟨trivial, trivial, Nat.le_refl _⟩
  | n, d :: ds, h, q => by
    have h' : D.pl n d = true ∧ D.pls n ds = true := by simpa only [D.pls, Bool.and_eq_true] using h
    have q' : D.rok d = true ∧ D.roks ds = true := by simpa only [D.roks, Bool.and_eq_true] using q
    obtain ⟨a1, a2, a3⟩ := D.shown_le n d h'.1 q'.1
    obtain ⟨b1, b2, b3⟩ := D.showns_le n ds h'.2 q'.2
    simp only [D.pys, PyData.showableAll, PyData.hasDictAll, PyData.shownAll, D.rcs, piled_cons, a1, b1, a2, b2]
    exact ⟨rfl, rfl, by omega⟩
end
section
variable {W : Wd} {E : XK} {Xc : XP} {ta tb tc te : TE} {pa pb pc pe : PTE} {tt : TT} {pt : PTT} {Z : Addr → Prop} {σ0 : L2.St} {H G H' G' : Hp} {σ : L2.St} {env : Env} {φ : Nat → Hp}
/-- repr -/
def reprD (d : D) : PySem.Str := d.py.shown
def repOk (d : D) : Prop := D.pl 60 d = true ∧ D.rok d = true ∧ D.rc d ≤ sizeLine
def pRepr (d : D) (Q : D → Prop) : Prop := repOk d ∧ Q (.str (reprD d))
theorem pc_repr : PurC W (rRepr W.K) (p1 pRepr) := pc_1 <| by
  intro G H x d Q Q' e f k ⟨⟨h1, h2, h3⟩, h⟩
  obtain ⟨a, b, c⟩ := D.shown_le 60 d h1 h2
  exact ⟨x, d.py, rfl, dp_same e (D.dp f h1), a, b, (D.lay 60 d h1).2, Nat.le_trans c h3, k _ _ G H (Grow.refl e) (.str _) h⟩
/-- tuple(..), all(..), any(..) -/
def pTuple : D → (D → Prop) → Prop
  | .lst xs, Q => Q (.tup xs)
  | .tup xs, Q => Q (.tup xs)
  | _, _ => False
theorem pc_tuple : PurC W (fun xs H Q => ∃ p ys, xs = [.ref p] ∧ ((SqL W.K H p ys ∧ ∀ l, H l = none → Q (.ref l) (upd H l (.tup ys))) ∨ (SqT W.K H p ys ∧ Q (.ref p) H))) (p1 pTuple) := pc_1 <| by
  intro G H x d Q Q' e f k h
  cases f with
  | @lst a vs ds hs t =>
    refine ⟨_, _, rfl, .inl ⟨SqL.of (e _ _ hs), fun l hl => ?_⟩⟩
    have g := Grow.new (o := .tup vs) e hl
    exact k _ _ _ _ g (.tup (.inl (.inl upd_same)) (t.mono g.g)) h
  | tup hs t => exact ⟨_, _, rfl, .inr ⟨sqt_mono e hs, k _ _ G H (Grow.refl e) (.tup hs t) h⟩⟩
  | _ => exact h.elim
def blsOf : List D → Option (List Bool)
  | [] => some []
  | .bl b :: r => (blsOf r).map (b :: ·)
  | _ => none
theorem blsOf_map (ys : List Bool) : blsOf (ys.map D.bl) = some ys := by
  induction ys with
  | nil => rfl
  | cons y ys ih => simp [blsOf, ih]
theorem of_blsOf : ∀ {ds : List D} {ys : List Bool}, blsOf ds = some ys → ds = ys.map D.bl := by
  intro ds
  induction ds with
  | nil => intro ys h; simp [blsOf] at h; subst h; rfl
  | cons d r ih =>
    intro ys h
    cases d <;> simp only [blsOf, Option.map_eq_some_iff] at h <;> first | (cases h; done) | skip
    obtain ⟨zs, h1, rfl⟩ := h
    rw [ih h1]
    rfl
theorem frs_bls : ∀ {vs : List V} {ys : List Bool}, FRs W G vs (ys.map D.bl) → vs = ys.map V.bl
  | vs, [], h => by cases h; rfl
  | vs, y :: ys, h => by
    cases h with
    | cons h t =>
      cases h
      rw [frs_bls t]
      rfl
def pBls (g : List Bool → Bool) : D → (D → Prop) → Prop
  | .lst ds, Q => ∃ bs, blsOf ds = some bs ∧ Q (.bl (g bs))
  | _, _ => False
theorem pc_all : PurC W (rAll W.K) (p1 (pBls fun bs => bs.all id)) := pc_1 <| by
  intro G H x d Q Q' e f k h
  cases f <;> first | (exact h.elim) | skip
  rename_i a vs ds hs t
  obtain ⟨bs, hb, q⟩ := h
  have := of_blsOf hb
  subst this
  have := frs_bls t
  subst this
  exact ⟨a, bs, rfl, SqL.of (e _ _ hs), k _ _ G H (Grow.refl e) (.bl _) q⟩
theorem pc_any : PurC W (rAny W.K) (p1 (pBls fun bs => bs.any id)) := pc_1 <| by
  intro G H x d Q Q' e f k h
  cases f <;> first | (exact h.elim) | skip
  rename_i a vs ds hs t
  obtain ⟨bs, hb, q⟩ := h
  have := of_blsOf hb
  subst this
  have := frs_bls t
  subst this
  exact ⟨a, bs, rfl, SqL.of (e _ _ hs), k _ _ G H (Grow.refl e) (.bl _) q⟩
/-- str(int), str(text), int(text), ord(sign) -/
def rStrU : List V → Hp → VK → Prop := fun xs H Q => (∃ i, xs = [.int i] ∧ i.natAbs.log2 < 1920 ∧ Q (.str (toString i)) H) ∨ ∃ a, xs = [.str a] ∧ Q (.str a) H
theorem CallR.or {X : Cx} {f : Value} {r r' : List V → Hp → VK → Prop} (h : CallR X f r) (h' : CallR X f r') : CallR X f (fun xs H Q => r xs H Q ∨ r' xs H Q) := by
  intro pins s σ H xs us Q I rv q
  rcases q with q | q
  · exact h pins s σ H xs us Q I rv q
  · exact h' pins s σ H xs us Q I rv q
def pStr : D → (D → Prop) → Prop
  | .int i, Q => i.natAbs.log2 < 1920 ∧ Q (.str (toString i))
  | .str x, Q => Q (.str x)
  | _, _ => False
theorem pc_str : PurC W rStrU (p1 pStr) := pc_1 <| by
  intro G H x d Q Q' e f k h
  cases f with
  | int i => exact .inl ⟨i, rfl, h.1, k _ _ G H (Grow.refl e) (.str _) h.2⟩
  | str y => exact .inr ⟨y, rfl, k _ _ G H (Grow.refl e) (.str _) h⟩
  | _ => exact h.elim
abbrev rIntS : List V → Hp → VK → Prop := fun xs H Q => ∃ a n, xs = [.str a] ∧ PySem.intText? a = some n ∧ a.length ≤ 640 ∧ Q (.int n) H
def rIntU : List V → Hp → VK → Prop := fun xs H Q => ((∃ i, xs = [.int i] ∧ Q (.int i) H) ∨ ∃ k, xs = [.bl k] ∧ Q (.int (if k then 1 else 0)) H) ∨ rIntS xs H Q
def pInt : D → (D → Prop) → Prop
  | .int i, Q => Q (.int i)
  | .bl b, Q => Q (.int (if b then 1 else 0))
  | .str x, Q => ∃ n, PySem.intText? x = some n ∧ x.length ≤ 640 ∧ Q (.int n)
  | _, _ => False
theorem pc_int : PurC W rIntU (p1 pInt) := pc_1 <| by
  intro G H x d Q Q' e f k h
  cases f with
  | int i => exact .inl (.inl ⟨i, rfl, k _ _ G H (Grow.refl e) (.int _) h⟩)
  | bl b => exact .inl (.inr ⟨b, rfl, k _ _ G H (Grow.refl e) (.int _) h⟩)
  | str y =>
    obtain ⟨n, h1, h2, q⟩ := h
    exact .inr ⟨y, n, rfl, h1, h2, k _ _ G H (Grow.refl e) (.int _) q⟩
  | _ => exact h.elim
def pOrd : D → (D → Prop) → Prop
  | .str x, Q => ∃ c, x = ⟨#[c]⟩ ∧ Q (.int (c : Nat))
  | _, _ => False
theorem pc_ord : PurC W (fun xs H Q => ∃ x, xs = [.str x] ∧ x.length = 1 ∧ Q (.int (x.cps.getD 0 0 : Nat)) H) (p1 pOrd) := pc_1 <| by
  intro G H x d Q Q' e f k h
  cases f <;> first | (exact h.elim) | skip
  obtain ⟨c, rfl, q⟩ := h
  exact ⟨_, rfl, rfl, k _ _ G H (Grow.refl e) (.int _) q⟩
/-- min, max of two ints -/
def pMax (g : Int → Int → Int) : List D → (D → Prop) → Prop
  | [.int i, .int j], Q => Q (.int (g i j))
  | _, _ => False
theorem pc_max : PurC W (fun xs H Q => ∃ i j, xs = [.int i, .int j] ∧ Q (.int (if j > i then j else i)) H) (pMax fun i j => if j > i then j else i) := by
  intro G H xs ds Q Q' e f k h
  unfold pMax at h
  split at h
  · rename_i i j
    obtain ⟨v, u, rfl, f1, f2⟩ := frs2 f
    cases f1; cases f2
    exact ⟨i, j, rfl, k _ _ G H (Grow.refl e) (.int _) h⟩
  · exact h.elim
theorem pc_min : PurC W (fun xs H Q => ∃ i j, xs = [.int i, .int j] ∧ Q (.int (if j < i then j else i)) H) (pMax fun i j => if j < i then j else i) := by
  intro G H xs ds Q Q' e f k h
  unfold pMax at h
  split at h
  · rename_i i j
    obtain ⟨v, u, rfl, f1, f2⟩ := frs2 f
    cases f1; cases f2
    exact ⟨i, j, rfl, k _ _ G H (Grow.refl e) (.int _) h⟩
  · exact h.elim
/-- text.split(sep), partition, startswith -/
theorem frs_of_strs : ∀ ys : List PySem.Str, FRs W G (ys.map V.str) (ys.map D.str)
  | [] => .nil
  | _ :: ys => .cons (.str _) (frs_of_strs ys)
def pSplit : D → D → (D → Prop) → Prop
  | .str a, .str b, Q => (b.length == 0) = false ∧ a.length + 2 ≤ sizeLine ∧ Q (.lst ((Txt.split a b).map D.str))
  | _, _, _ => False
theorem pr_split : PurR2 W (fun x y => (fun (x : V) (xs : List V) (H : Hp) (Q : VK) => ∃ a b, x = .str a ∧ xs = [.str b] ∧ (b.length == 0) = false ∧ a.length + 2 ≤ sizeLine ∧ rNewStrs (Txt.split a b) H Q) x [y]) pSplit := by
  intro G H x y dx dy Q Q' e f1 f2 k h
  cases f1 <;> first | (exact h.elim) | skip
  cases f2 <;> first | (exact h.elim) | skip
  rename_i a b
  refine ⟨_, _, rfl, rfl, h.1, h.2.1, fun p hp => ?_⟩
  have g := Grow.new (o := .lst ((Txt.split a b).map V.str)) e hp
  exact k _ _ _ _ g (.lst upd_same (frs_of_strs _)) h.2.2
def pPart : D → D → (D → Prop) → Prop
  | .str a, .str b, Q => (b.length == 0) = false ∧ a.length ≤ sizeLine ∧ Q (.tup [.str (Txt.partition a b).1, .str (Txt.partition a b).2.1, .str (Txt.partition a b).2.2])
  | _, _, _ => False
theorem pr_partition : PurR2 W (fun x y => (fun (x : V) (xs : List V) (H : Hp) (Q : VK) => ∃ a b, x = .str a ∧ xs = [.str b] ∧ (b.length == 0) = false ∧ a.length ≤ sizeLine ∧
      ∀ p, H p = none → Q (.ref p) (upd H p (.tup [.str (Txt.partition a b).1, .str (Txt.partition a b).2.1, .str (Txt.partition a b).2.2]))) x [y]) pPart := by
  intro G H x y dx dy Q Q' e f1 f2 k h
  cases f1 <;> first | (exact h.elim) | skip
  cases f2 <;> first | (exact h.elim) | skip
  rename_i a b
  refine ⟨_, _, rfl, rfl, h.1, h.2.1, fun p hp => ?_⟩
  have g := Grow.new (o := .tup [.str (Txt.partition a b).1, .str (Txt.partition a b).2.1, .str (Txt.partition a b).2.2]) e hp
  exact k _ _ _ _ g (.tup (.inl (.inl upd_same)) (.cons (.str _) (.cons (.str _) (.cons (.str _) .nil)))) h.2.2
/-- over a text -/
def stO : D → Option PySem.Str
  | .str x => some x
  | .non => none
  | .bl _ => none
  | .int _ => none
  | .lst _ => none
  | .tup _ => none
  | .dct _ _ => none
  | .hdl _ _ => none
  | .cls _ => none
  | .ty _ => none
  | .exc _ _ _ _ => none
  | .scr _ => none
def signsD (x : PySem.Str) : List D := x.cps.toList.map fun c => D.str ⟨#[c]⟩
def iS (pe : PTE) : PTA := fun env Q => pe env fun d e1 => ∃ x, stO d = some x ∧ Q (signsD x) e1
theorem it_str {x : PySem.Str} : IT W G (Its x) (signsD x) := by
  have len : (signsD x).length = x.cps.size := by simp [signsD]
  have at_ : ∀ i : Nat, (signsD x)[i]? = (x.cps[i]?).map fun c => D.str ⟨#[c]⟩ := fun i => by
    unfold signsD
    rw [List.getElem?_map, Array.getElem?_toList]
  refine ⟨fun i H _ h => ?_, fun i H _ h => ?_, fun i d H y H' e hd hy => ?_⟩
  · show x.cps.size ≤ i
    omega
  · show i < x.cps.size
    omega
  · obtain ⟨rfl, c, hc, rfl⟩ := hy
    rw [at_, hc] at hd
    cases hd
    exact ⟨G, Grow.refl e, .str _⟩
theorem puri_str (h : PurE W E Xc te pe) : PurI W E Xc (iStr te) (iS pe) := by
  intro Z σ0 H G σ env φ R Q' e x k q
  refine h Z σ0 H G σ env φ _ _ e x (fun v d H1 G1 e1 p1 t1 r1 f1 q1 => ?_) q
  obtain ⟨y, hy, q1⟩ := q1
  cases f1 <;> first | (cases hy; done) | skip
  cases hy
  exact ⟨_, rfl, k _ _ H1 G1 e1 p1 t1 r1 (fun G2 s => it_str) q1⟩
end
end Pu

set_option Elab.async false
set_option linter.all false
set_option maxRecDepth 100000
namespace Pu
open PySem PySem.Spec L2
abbrev rGe0 : R2 := rI0 fun i j => .bl (decide (j ≤ i))
/-- what _law_take does -/
def t_take (K : PySem.W.Frag) : TS :=
  tSeq (tIfS (tTest (tOp rLt0 (tVar 1) (i0 1))) (tRet (i0 0)) tNext)
  (tSeq (tAsg (tOp (rIx K) (tVar 0) (i0 1)) (gName 2))
  (tSeq (tAsg (tOp rMod0 (tOp (rIx K) (tVar 0) (i0 0)) (tCB (rLenA K) (tCons (tVar 2) tNil))) (gName 3))
  (tSeq (tAsg (tOp (rIx K) (tVar 2) (tVar 3)) (gName 4))
  (tSeq (tIfS (tTest (tOp rGe0 (tVar 4) (i0 1000000000000000000)))
    (tSeq (tAsg (tOp rDiv0 (tVar 4) (tVar 1)) (gSub (tVar 2) (tVar 3) rSetL))
    (tRet (tOp rMod0 (tVar 4) (tVar 1)))) tNext)
  (tSeq (tAsg (tOp (rPlus K) (tOp (rIx K) (tVar 0) (i0 0)) (i0 1)) (gSub (tVar 0) (i0 0) rSetL))
  (tSeq (tAsg (tOp rMod0 (tCB rInt1 (tCons (tOp (rPlus K) (tOp rTimes (tVar 4) (i0 48271)) (tOp rTimes (tOp (rIx K) (tVar 0) (i0 0)) (i0 69621))) tNil)) (i0 2147483647)) (gName 5))
  (tSeq (tAsg (tOp rMod0 (tCB rInt1 (tCons (tOp (rPlus K) (tOp rTimes (tVar 5) (i0 16807)) (tOp rTimes (tOp (rIx K) (tVar 0) (i0 0)) (i0 7919))) tNil)) (i0 1000000007)) (gName 5))
  (tRet (tOp rMod0 (tOp rDiv0 (tVar 5) (i0 7)) (tVar 1))))))))))
section
variable {P : Program} {w : World} {K : PySem.W.Frag} {H : Hp} {Q : VK}
theorem len_l {c : Addr} {vs : List V} (h : H c = some (.lst vs)) (q : Q (.int vs.length) H) : rLenA K [.ref c] H Q := ⟨_, vs.length, rfl, .inl ⟨_, SqL.of h, rfl⟩, q⟩
theorem ix_l {c : Addr} {vs : List V} {i : Int} {v : V} (h : H c = some (.lst vs)) (hv : atI vs i = some v) (q : Q v H) : rIx K (.ref c) (.int i) H Q := .inl ⟨c, _, i, v, rfl, rfl, SqL.of h, hv, q⟩
theorem mod_i {i j : Int} (h : 0 < j) (q : Q (.int (i % j)) H) : rMod0 (.int i) (.int j) H Q := ⟨i, j, rfl, rfl, h, q⟩
theorem div_i {i j : Int} (h : 0 < j) (h2 : j < 1073741824) (q : Q (.int (i / j)) H) : rDiv0 (.int i) (.int j) H Q := ⟨i, j, rfl, rfl, ⟨h, h2⟩, q⟩
theorem add_i {i j : Int} (q : Q (.int (i + j)) H) : rPlus K (.int i) (.int j) H Q := .inl ⟨i, j, rfl, rfl, q⟩
theorem mul_i {i j : Int} (h : -(2 ^ 64) < j ∧ j < 2 ^ 64) (q : Q (.int (i * j)) H) : rTimes (.int i) (.int j) H Q := .inl ⟨i, j, rfl, rfl, .inr h, q⟩
theorem int_i {i : Int} (q : Q (.int i) H) : rInt1 [.int i] H Q := .inl ⟨i, rfl, q⟩
theorem set_l {c : Addr} {vs : List V} {i : Int} {j : Nat} {v : V} {R : Hp → Prop} (h : H c = some (.lst vs)) (hj : ixN vs.length i = some j) (q : R (upd H c (.lst (vs.set j v)))) : rSetL (.ref c) (.int i) v H R := ⟨c, vs, i, j, rfl, rfl, h, hj, q⟩
theorem ixN_nat {n k : Nat} (h : k < n) : ixN n (k : Int) = some k := by
  unfold ixN
  rw [if_pos (by omega), if_pos (by omega)]
  simp
theorem take_read {N : List PySem.Str} (hN : N.length = 6) (vs : List V) (H : Hp) (Q : VK) (E : XK) (h : spOf (wd P w K) psTake vs H Q E) : t_take K { nx := fun _ H' => Q .non H', rt := Q } (L2.start N vs) H := by
  obtain ⟨G, as, φ, Q', Xc, e, ⟨many, rfl, hm, q⟩, k, _⟩ := h
  have hl := e.len.1
  rw [List.length_map] at hl
  match vs, hl with
  | [u, v], _ =>
  obtain ⟨u', a1, a2, a3⟩ := e.sl 0 _ rfl
  obtain ⟨v', b1, b2⟩ := e.sl 1 _ rfl
  simp at a1 b1
  subst a1 b1
  cases b2
  cases a3 with
  | hdl r =>
  obtain ⟨a, c, cells, idx, rfl, _, hac, hFa, hFc, hne⟩ := r
  have hs : L2.start N [.ref a, .int many] = [some (.ref a), some (.int many), none, none, none, none] := by
    unfold L2.start
    rw [hN]
    rfl
  rw [hs]
  have ha := ne_none_of hFa
  have hc := ne_none_of hFc
  have hHa := e.sub 0 a _ hFa
  have hHc := e.sub 0 c _ hFc
  have pos : 0 < cells.length := List.length_pos_iff.mpr hne
  have rep : ∀ (cells2 : List Int) (idx2 : Int), cells2 ≠ [] → ∀ F : Hp, F a = some (.lst [.int idx2, .ref c]) → F c = some (.lst (cells2.map V.int)) → OR (wd P w K) G F (.ref a) stB := fun cells2 idx2 hn F h1 h2 => .hdl ⟨a, c, cells2, idx2, rfl, rfl, hac, h1, h2, hn⟩
  refine ⟨_, rfl, _, _, rfl, rfl, _, rfl, ?_⟩
  by_cases hmany : many < 1
  · rw [decide_eq_true hmany]; refine ifT ?_
    obtain ⟨t, r⟩ := draw_out (cells2 := cells) (st := stB) (rep cells idx hne) e ha hc hac (H2 := H) hHa hHc (fun _ _ _ => rfl)
    exact k _ (.frz (.int 0)) emp H G _ _ t r (.int 0) (q 0 (by omega) (.inr rfl))
  rw [decide_eq_false hmany]; refine ifF ?_
  have fin : ∀ {v : Int}, Q' (.frz (.int (v % many))) [.par stB, .nil] := fun {v} => q _ (Int.emod_nonneg _ (by omega)) (.inl (Int.emod_lt_of_pos _ (by omega)))
  refine ⟨_, rfl, ix_l hHa (by rfl) ?_⟩
  refine ⟨_, rfl, ix_l hHa atI0 ⟨_, rfl, _, (cells.map V.int).length, rfl, .inl ⟨_, SqL.of hHc, rfl⟩, ?_⟩⟩
  have hcl : (0 : Int) < (cells.map V.int).length := by rw [List.length_map]; omega
  refine mod_i hcl ?_
  have m0 : 0 ≤ idx % ((cells.map V.int).length : Int) := Int.emod_nonneg _ (by omega)
  have m1 : idx % ((cells.map V.int).length : Int) < (cells.map V.int).length := Int.emod_lt_of_pos _ hcl
  generalize hat : idx % ((cells.map V.int).length : Int) = at_ at m0 m1
  obtain ⟨p, rfl⟩ : ∃ p : Nat, at_ = p := ⟨at_.toNat, by omega⟩
  have hp : p < (cells.map V.int).length := by omega
  have hp' : p < cells.length := by rw [List.length_map] at hp; exact hp
  have hv : atI (cells.map V.int) (p : Int) = some (.int cells[p]) := Pu.atI_nat (by rw [List.getElem?_map, List.getElem?_eq_getElem hp']; rfl)
  refine ⟨_, rfl, _, rfl, ix_l hHc hv ?_⟩
  generalize cells[p] = cell
  refine ⟨_, rfl, _, _, rfl, rfl, _, rfl, ?_⟩
  by_cases hb : (1000000000000000000 : Int) ≤ cell
  · rw [decide_eq_true hb]; refine ifT ?_
    refine ⟨_, rfl, _, rfl, div_i (by omega) hm ?_⟩
    refine ⟨_, rfl, _, rfl, set_l hHc (ixN_nat hp) ?_⟩
    refine ⟨_, rfl, _, rfl, mod_i (by omega) ?_⟩
    have es : (cells.map V.int).set p (.int (cell / many)) = (cells.set p (cell / many)).map V.int := by rw [List.map_set]
    have hn2 : cells.set p (cell / many) ≠ [] := fun z => by
      have := congrArg List.length z
      simp at this
      exact hne this
    obtain ⟨t, r⟩ := draw_out (cells2 := cells.set p (cell / many)) (st := stB) (rep _ idx hn2) e ha hc hac (H2 := upd H c (.lst ((cells.map V.int).set p (.int (cell / many))))) (by rw [upd_ne hac]; exact hHa) (by rw [upd_same, es]) (fun b h1 h2 => upd_ne h2)
    exact k _ (.frz (.int _)) emp _ G _ _ t r (.int _) fin
  · rw [decide_eq_false hb]; refine ifF ?_
    refine ⟨_, rfl, ix_l hHa atI0 (add_i ?_)⟩
    refine ⟨_, rfl, set_l (j := 0) hHa rfl ?_⟩
    have hA2 : upd H a (.lst ([V.int idx, .ref c].set 0 (.int (idx + 1)))) a = some (.lst [.int (idx + 1), .ref c]) := upd_same
    refine ⟨_, rfl, mul_i (by omega) ⟨_, rfl, ix_l hA2 atI0 (mul_i (by omega) (add_i (.inl ⟨_, rfl, _, _, rfl, rfl, (by decide : (0 : Int) < 2147483647), ?_⟩)))⟩⟩
    refine ⟨_, rfl, mul_i (by omega) ⟨_, rfl, ix_l hA2 atI0 (mul_i (by omega) (add_i (.inl ⟨_, rfl, _, _, rfl, rfl, (by decide : (0 : Int) < 1000000007), ?_⟩)))⟩⟩
    refine ⟨_, rfl, _, _, rfl, rfl, (by decide : (0 : Int) < 7 ∧ (7 : Int) < 1073741824), _, rfl, _, _, rfl, rfl, (show (0 : Int) < many by omega), ?_⟩
    obtain ⟨t, r⟩ := draw_out (cells2 := cells) (st := stB) (rep cells (idx + 1) hne) e ha hc hac (H2 := upd H a (.lst ([V.int idx, .ref c].set 0 (.int (idx + 1))))) hA2 (by rw [upd_ne (Ne.symm hac)]; exact hHc) (fun b h1 h2 => upd_ne h1)
    exact k _ (.frz (.int _)) emp _ G _ _ t r (.int _) fin
theorem rd_take {m : Int} {Q : Slot → Env → Prop} {X : XP} : psTake [.par stB, .frz (.int m)] Q X ↔ m < 1073741824 ∧ ∀ v, 0 ≤ v → (v < m ∨ v = 0) → Q (.frz (.int v)) [.par stB, .nil] := by
  constructor
  · rintro ⟨y, e, h⟩
    cases e
    exact h
  · exact fun h => ⟨m, rfl, h⟩
end
end Pu

set_option Elab.async false
set_option linter.all false
set_option maxRecDepth 100000
namespace Pu
open PySem PySem.Spec L2
/-! ### slices whose ends do something -/
abbrev PEO := Env → (Option Int → Env → Prop) → Prop
section
variable {W : Wd} {E : XK} {Xc : XP} {ta te : TE} {pa pe : PTE} {tl th : TO} {pl ph : PEO} {Z : Addr → Prop} {σ0 : L2.St} {H G H' G' : Hp} {σ : L2.St} {env : Env} {φ : Nat → Hp}
def PurEO (W : Wd) (E : XK) (Xc : XP) (to : TO) (po : PEO) : Prop :=
  ∀ Z σ0 H G σ env φ (Q : Option Int → Hp → Prop) (Q' : Option Int → Env → Prop), ER W Z σ0 H G σ env φ → XOk W Z G H E Xc →
    (∀ b H' G' env' φ', Ext Z G H G' H' → ER W Z σ0 H' G' σ env' φ' → Q' b env' → Q b H') → po env Q' → to σ H Q
def eNo : PEO := fun env Q => Q none env
def ePart (pe : PTE) : PEO := fun env Q => pe env fun d e1 => asI (fun i => Q (some i) e1) d
theorem pureo_no : PurEO W E Xc tNoPart eNo := fun Z σ0 H G σ env φ Q Q' e x k h => k none H G env φ .refl e h
theorem pureo_part (h : PurE W E Xc te pe) : PurEO W E Xc (tPart te) (ePart pe) := by
  intro Z σ0 H G σ env φ Q Q' e x k q
  refine h Z σ0 H G σ env φ _ _ e x (fun u d H1 G1 e1 p1 t1 r1 f1 q1 => ?_) q
  cases f1 <;> first | (exact q1.elim) | exact ⟨_, rfl, k _ H1 G1 e1 p1 t1 r1 q1⟩
def eCutE (pa : PTE) (pl ph : PEO) : PTE := fun env Q => pa env fun d e1 => pl e1 fun lo e2 => ph e2 fun hi e3 => pCut d lo hi fun r => Q r e3
theorem pure_cutE (ha : PurE W E Xc ta pa) (hl : PurEO W E Xc tl pl) (hh : PurEO W E Xc th ph) : PurE W E Xc (tSl (rCut W.K) ta tl th) (eCutE pa pl ph) := by
  intro Z σ0 H G σ env φ Q Q' e x k q
  refine ha Z σ0 H G σ env φ _ _ e x (fun u d H1 G1 e1 p1 t1 r1 f1 q1 => ?_) q
  refine hl Z σ0 H1 G1 σ e1 p1 _ _ r1 (x.ext t1) (fun lo H2 G2 e2 p2 t2 r2 q2 => ?_) q1
  refine hh Z σ0 H2 G2 σ e2 p2 _ _ r2 ((x.ext t1).ext t2) (fun hi H3 G3 e3 p3 t3 r3 q3 => ?_) q2
  refine pr_cut G3 H3 u d lo hi _ _ r3.gh ((f1.mono t2.g).mono t3.g) (fun v d G4 H4 g4 f4 q4 => ?_) q3
  obtain ⟨r4, t4⟩ := r3.grow g4
  exact k v d H4 G4 e3 p3 (((t1.trans t2).trans t3).trans t4) r4 f4 q4
end
/-! ### written tables -/
def vl : Value → V
  | .bool b => .bl b
  | .int i _ => .int i
  | .str x _ => .str x
  | .ref a => .ref a
  | .type n => .ty n
  | _ => .non
mutual
/-- the module's object is this data -/
def frB (K : PySem.W.Frag) : D → Value → Bool
  | .non, u => match u with
    | .none => true
    | _ => false
  | .bl c, u => match u with
    | .bool b => b == c
    | _ => false
  | .int j, u => match u with
    | .int i _ => decide (i = j)
    | _ => false
  | .str y, u => match u with
    | .str x _ => decide (x = y)
    | _ => false
  | .tup ds, u => match u with
    | .ref a => (match K.lookup a with
      | some ⟨.type c, _, .seq its _, _⟩ => decide (c = "tuple") && (decide (its.size ≤ sizeLine) && frsB K ds its.toList)
      | _ => false)
    | _ => false
  | _, _ => false
def frsB (K : PySem.W.Frag) : List D → List Value → Bool
  | [], us => us.isEmpty
  | d :: ds, us => match us with
    | u :: us => frB K d u && frsB K ds us
    | [] => false
end
mutual
theorem frB_ok {W : Wd} {G : Hp} : ∀ (d : D) (u : Value), frB W.K d u = true → L2.RelV (vl u) u ∧ FR W G (vl u) d
  | .non, u, h => by
    unfold frB at h
    split at h
    · exact ⟨rfl, .non⟩
    · cases h
  | .bl c, u, h => by
    unfold frB at h
    split at h
    · have h' := eq_of_beq h
      subst h'
      exact ⟨rfl, .bl _⟩
    · cases h
  | .int j, u, h => by
    unfold frB at h
    split at h
    · have h' := of_decide_eq_true h
      subst h'
      exact ⟨⟨_, rfl⟩, .int _⟩
    · cases h
  | .str y, u, h => by
    unfold frB at h
    split at h
    · have h' := of_decide_eq_true h
      subst h'
      exact ⟨⟨_, rfl⟩, .str _⟩
    · cases h
  | .tup ds, u, h => by
    unfold frB at h
    split at h
    · rename_i a
      split at h
      · rename_i c od its m sl ho
        simp only [Bool.and_eq_true, decide_eq_true_eq] at h
        obtain ⟨rfl, h2, h3⟩ := h
        obtain ⟨r, t⟩ := frsB_ok (W := W) (G := G) ds its.toList h3
        exact ⟨rfl, .tup (.inr ⟨_, its, m, ho, rfl, rfl, h2, r⟩) t⟩
      · cases h
    · cases h
  | .lst _, u, h => by unfold frB at h; cases h
  | .dct _ _, u, h => by unfold frB at h; cases h
  | .hdl _ _, u, h => by unfold frB at h; cases h
  | .cls _, u, h => by unfold frB at h; cases h
  | .ty _, u, h => by unfold frB at h; cases h
  | .exc _ _ _ _, u, h => by unfold frB at h; cases h
  | .scr _, u, h => by unfold frB at h; cases h
theorem frsB_ok {W : Wd} {G : Hp} : ∀ (ds : List D) (us : List Value), frsB W.K ds us = true → Vals (us.map vl) us ∧ FRs W G (us.map vl) ds
  | [], us, h => by
    unfold frsB at h
    have : us = [] := List.isEmpty_iff.mp h
    subst this
    exact ⟨.nil, .nil⟩
  | d :: ds, us, h => by
    unfold frsB at h
    split at h
    · rename_i u us
      have h' := Bool.and_eq_true_iff.mp h
      obtain ⟨a, b⟩ := frB_ok (W := W) (G := G) d u h'.1
      obtain ⟨c, e⟩ := frsB_ok (W := W) (G := G) ds us h'.2
      exact ⟨.cons a c, .cons b e⟩
    · cases h
end
structure Kon (K : PySem.W.Frag) (mg : PySem.Str → Option Value) (x : PySem.Str) (v : V) (d : D) : Prop where
  at_ : ∃ u, mg x = some u ∧ L2.RelV v u
  fr : ∀ (W : Wd) (G : Hp), W.K = K → FR W G v d
def konV (K : PySem.W.Frag) (x : PySem.Str) : V := match PySem.W.nsIn K mainGlobals x with
  | some (some u) => vl u
  | _ => .non
def konB (K : PySem.W.Frag) (x : PySem.Str) (d : D) : Bool := match PySem.W.nsIn K mainGlobals x with
  | some (some u) => frB K d u
  | _ => false
theorem konB_ok (P : Program) (w : World) {K : PySem.W.Frag} {h : Heap} {mg : PySem.Str → Option Value} (X : K.In h) (Gn : h.Ns mainGlobals mg) {x : PySem.Str} {d : D} (q : konB K x d = true) : Kon K mg x (konV K x) d := by
  unfold konB at q
  unfold konV
  split at q
  · rename_i u hu
    refine ⟨⟨u, PySem.W.mg_of X Gn hu, ?_⟩, fun W G e => ?_⟩
    · exact (frB_ok (W := wd P w K) (G := emp) d u q).1
    · subst e
      exact (frB_ok (W := W) (G := G) d u q).2
  · cases q
theorem pe_kon {X : Cx} {x : PySem.Str} {v : V} {d : D} {p : Pos} (hg : Gl X x) (k : Kon X.K X.mg x v d) (hd : (x == ("__debug__" : PySem.Str)) = false := by decide) : PE X (.Name x p) (tC v) := by
  obtain ⟨u, h1, h2⟩ := k.at_
  exact pe_glob hg h1 h2 hd
/-! ### defs that ask for repr, by data -/
section
variable {P : Program} {w : World} {K : PySem.W.Frag} {mg : PySem.Str → Option Value} {base : Heap} {x qual : PySem.Str} {st : Stmt} {f : Addr} {fd : FuncData} {N pn : List PySem.Str} {k : Nat} {psp : PSp} {rep : Nat → Hp → Hp → V → D → Prop} {mono : ∀ n G G' F v d, Same G G' → rep n G F v d → rep n G' F v d}
theorem FnP.pureG (F : FnP K x qual st f fd) (S : FnScope N pn (defScope st)) (hN : pn.length ≤ N.length) (hl : ∀ as Q Xc, psp as Q Xc → as.length = pn.length)
    (hbody : ∀ (cdv : Value) (A : Around) (outer : List PySem.Env) (s : Shared) (H : Hp) (E : XK), NoG A → Room k (A.deeper (PyProof.Rows.envOfC qual (defScope st) s.heap.objs.size f cdv)) →
      ∃ t p, PSs (cxOf CX0 P w K mg base N qual (defScope st) f cdv A outer s H E).nox (defBody st) t ∧ PurS ⟨P, w, K, rep, mono⟩ E0 NoX t p ∧ ∀ as Q X', psp as Q X' → p (ends pn.length Q) (as ++ nils (N.length - as.length))) :
    FnOkG P w K mg base CX0 (k + 1) f fd pn (spOf ⟨P, w, K, rep, mono⟩ psp) := by
  refine okG_of F S (sp_len hl) (fun cdv A outer s H vs Q E ng hr h => ?_)
  obtain ⟨t, p, hs, hp, hb⟩ := hbody cdv A outer s H E ng hr
  obtain ⟨G, as, φ, Q', Xc, e, q, k, _⟩ := h
  exact ⟨t, hs.nox, body_ok hp hN (hl _ _ _ q) e xok0 (hb _ _ _ q) k⟩
end
structure CalG (P : Program) (w : World) (K : PySem.W.Frag) (mg : PySem.Str → Option Value) (base : Heap) (lv : Nat) (x : PySem.Str) (pn : List PySem.Str) (sp : Sp) (f : Addr) (fd : FuncData) : Prop where
  ok : FnOkG P w K mg base CX0 lv f fd pn sp
  b : Binds K fd pn []
  g : mg x = some (.ref f)
  k : PySem.W.keepIn K (.ref f) = true
end Pu

set_option Elab.async false
set_option linter.all false
set_option maxRecDepth 100000
namespace Pu
open PySem PySem.Spec L2
section
variable {W : Wd} {E : XK} {Xc : XP} {ta tb tc te : TE} {pa pb pc pe : PTE} {Z : Addr → Prop} {σ0 : L2.St} {H G H' G' : Hp} {σ : L2.St} {env : Env} {φ : Nat → Hp}
/-! ### and, or, not as values, with effects -/
def eAndV (p u : PTE) : PTE := fun env Q => p env fun d e1 => asB (fun c => if c = true then u e1 Q else Q (.bl false) e1) d
def eOrV (p u : PTE) : PTE := fun env Q => p env fun d e1 => asB (fun c => if c = true then Q (.bl true) e1 else u e1 Q) d
def eNotV (p : PTE) : PTE := fun env Q => p env fun d e1 => asB (fun c => Q (.bl (!c)) e1) d
theorem pure_andV (h1 : PurE W E Xc ta pa) (h2 : PurE W E Xc tb pb) : PurE W E Xc (tAndV ta tb) (eAndV pa pb) := by
  intro Z σ0 H G σ env φ Q Q' e x k q
  refine h1 Z σ0 H G σ env φ _ _ e x (fun v d H1 G1 e1 p1 t1 r1 f1 q1 => ?_) q
  obtain ⟨c, ec, _, q1⟩ := asB_of f1 q1
  refine ⟨c, ec, ?_⟩
  cases c with
  | true =>
    rw [if_pos rfl] at q1 ⊢
    exact h2 Z σ0 H1 G1 σ e1 p1 Q Q' r1 (x.ext t1) (k.ext t1) q1
  | false =>
    rw [if_neg Bool.false_ne_true] at q1 ⊢
    exact k _ _ H1 G1 e1 p1 t1 r1 (.bl false) q1
theorem pure_orV (h1 : PurE W E Xc ta pa) (h2 : PurE W E Xc tb pb) : PurE W E Xc (tOrV ta tb) (eOrV pa pb) := by
  intro Z σ0 H G σ env φ Q Q' e x k q
  refine h1 Z σ0 H G σ env φ _ _ e x (fun v d H1 G1 e1 p1 t1 r1 f1 q1 => ?_) q
  obtain ⟨c, ec, _, q1⟩ := asB_of f1 q1
  refine ⟨c, ec, ?_⟩
  cases c with
  | false =>
    rw [if_neg Bool.false_ne_true] at q1 ⊢
    exact h2 Z σ0 H1 G1 σ e1 p1 Q Q' r1 (x.ext t1) (k.ext t1) q1
  | true =>
    rw [if_pos rfl] at q1 ⊢
    exact k _ _ H1 G1 e1 p1 t1 r1 (.bl true) q1
theorem pure_notV (h1 : PurE W E Xc ta pa) : PurE W E Xc (tNotV ta) (eNotV pa) := by
  intro Z σ0 H G σ env φ Q Q' e x k q
  refine h1 Z σ0 H G σ env φ _ _ e x (fun v d H1 G1 e1 p1 t1 r1 f1 q1 => ?_) q
  obtain ⟨c, ec, _, q1⟩ := asB_of f1 q1
  exact ⟨c, ec, k _ _ H1 G1 e1 p1 t1 r1 (.bl _) q1⟩
/-- a op b op c -/
def eChain (p p' : D → D → (D → Prop) → Prop) (pa pb pc : PTE) : PTE := fun env Q => pa env fun x e1 => pb e1 fun y e2 => p x y (asB fun c => if c = true then pc e2 fun z e3 => p' y z fun d => Q d e3 else Q (.bl false) e2)
theorem pure_chain {r r' : R2} {p p' : D → D → (D → Prop) → Prop} (hr : PurR2 W r p) (hr' : PurR2 W r' p') (ha : PurE W E Xc ta pa) (hb : PurE W E Xc tb pb) (hc : PurE W E Xc tc pc) : PurE W E Xc (tChain r r' ta tb tc) (eChain p p' pa pb pc) := by
  intro Z σ0 H G σ env φ Q Q' e x k h
  refine ha Z σ0 H G σ env φ _ _ e x (fun v1 d1 H1 G1 e1 p1 t1 r1 f1 q1 => ?_) h
  refine hb Z σ0 H1 G1 σ e1 p1 _ _ r1 (x.ext t1) (fun v2 d2 H2 G2 e2 p2 t2 r2 f2 q2 => ?_) q1
  refine hr G2 H2 v1 v2 d1 d2 _ _ r2.gh (f1.mono t2.g) f2 (fun v3 d3 G3 H3 g3 f3 q3 => ?_) q2
  obtain ⟨r3, t3⟩ := r2.grow g3
  obtain ⟨c, e1', e2', q3⟩ := asB_of f3 q3
  refine ⟨c, e1', ?_⟩
  have t13 := (t1.trans t2).trans t3
  cases c with
  | false =>
    rw [if_neg Bool.false_ne_true] at q3 ⊢
    exact k _ _ H3 G3 e2 p2 t13 r3 (.bl false) q3
  | true =>
    rw [if_pos rfl] at q3 ⊢
    refine hc Z σ0 H3 G3 σ e2 p2 _ _ r3 (x.ext t13) (fun v4 d4 H4 G4 e4 p4 t4 r4 f4 q4 => ?_) q3
    refine hr' G4 H4 v2 v4 d2 d4 _ _ r4.gh ((f2.mono t3.g).mono t4.g) f4 (fun v5 d5 G5 H5 g5 f5 q5 => ?_) q4
    obtain ⟨r5, t5⟩ := r4.grow g5
    exact k v5 d5 H5 G5 e4 p4 ((t13.trans t4).trans t5) r5 f5 q5
end
/-! ### how more of the promises compute -/
section
variable {d : D} {e : Env} {n : Nat} {i j : Int} {b c : Bool} {x y z : PySem.Str} {xs ys : List D} {Q : D → Prop} {ns : List Int}
theorem rd_pLt {Q : D → Prop} : pLt (.int i) (.int j) Q = Q (.bl (decide (i < j))) := rfl
theorem rd_pLe {Q : D → Prop} : pLe (.int i) (.int j) Q = Q (.bl (decide (i ≤ j))) := rfl
theorem rd_pGt {Q : D → Prop} : pGt (.int i) (.int j) Q = Q (.bl (decide (j < i))) := rfl
theorem rd_pGe {Q : D → Prop} : pGe (.int i) (.int j) Q = Q (.bl (decide (j ≤ i))) := rfl
theorem rd_pTuple1 : pTuple (.lst xs) Q = Q (.tup xs) := rfl
theorem rd_pTuple2 : pTuple (.tup xs) Q = Q (.tup xs) := rfl
theorem rd_pStr1 : pStr (.int i) Q = (i.natAbs.log2 < 1920 ∧ Q (.str (toString i))) := rfl
theorem rd_pStr2 : pStr (.str x) Q = Q (.str x) := rfl
theorem rd_pInt : pInt (.int i) Q = Q (.int i) := rfl
theorem rd_pIntS : pInt (.str x) Q = ∃ n, PySem.intText? x = some n ∧ x.length ≤ 640 ∧ Q (.int n) := rfl
theorem rd_pIntB : pInt (.bl b) Q = Q (.int (if b then 1 else 0)) := rfl
theorem rd_pOrd {c : Nat} : pOrd (.str ⟨#[c]⟩) Q ↔ Q (.int (c : Nat)) := ⟨fun ⟨c', e, q⟩ => by cases e; exact q, fun q => ⟨c, rfl, q⟩⟩
theorem rd_pMax {g : Int → Int → Int} : pMax g [.int i, .int j] Q = Q (.int (g i j)) := rfl
theorem rd_pSplit : pSplit (.str x) (.str y) Q = ((y.length == 0) = false ∧ x.length + 2 ≤ sizeLine ∧ Q (.lst ((Txt.split x y).map D.str))) := rfl
theorem rd_pPart : pPart (.str x) (.str y) Q = ((y.length == 0) = false ∧ x.length ≤ sizeLine ∧ Q (.tup [.str (Txt.partition x y).1, .str (Txt.partition x y).2.1, .str (Txt.partition x y).2.2])) := rfl
theorem rd_stO : stO (.str x) = some x := rfl
theorem rd_pCutS {lo hi : Option Int} : pCut (.scr ns) lo hi Q = Q (.lst ((cutD ns lo hi).map D.int)) := rfl
theorem rd_solB : D.sol stB = false := rfl
theorem rd_pIn1 {c : Nat} : pIn (.str ⟨#[c]⟩) (.str z) Q ↔ Q (.bl (decide (c ∈ z.cps.toList))) := by
  show (∃ c', _ ∧ _) ↔ _
  constructor
  · rintro ⟨c', e, q⟩
    cases e
    rw [Bool.false_xor] at q
    exact q
  · exact fun q => ⟨c, rfl, by rw [Bool.false_xor]; exact q⟩
theorem rd_pNotIn1 {c : Nat} : pNotIn (.str ⟨#[c]⟩) (.str z) Q ↔ Q (.bl (!decide (c ∈ z.cps.toList))) := by
  show (∃ c', _ ∧ _) ↔ _
  constructor
  · rintro ⟨c', e, q⟩
    cases e
    rw [Bool.true_xor] at q
    exact q
  · exact fun q => ⟨c, rfl, by rw [Bool.true_xor]; exact q⟩
theorem inL (neg : Bool) : ∀ x : D, pInG neg x (.lst ys) Q = (inOk x ys = true ∧ Q (.bl (neg ^^ decide (x ∈ ys)))) := fun x => by cases x <;> rfl
theorem inT (neg : Bool) : ∀ x : D, pInG neg x (.tup ys) Q = (inOk x ys = true ∧ Q (.bl (neg ^^ decide (x ∈ ys)))) := fun x => by cases x <;> rfl
theorem rd_pIn2 : pIn d (.lst ys) Q = (inOk d ys = true ∧ Q (.bl (decide (d ∈ ys)))) := by unfold pIn; rw [inL, Bool.false_xor]
theorem rd_pIn3 : pIn d (.tup ys) Q = (inOk d ys = true ∧ Q (.bl (decide (d ∈ ys)))) := by unfold pIn; rw [inT, Bool.false_xor]
theorem rd_pNotIn2 : pNotIn d (.lst ys) Q = (inOk d ys = true ∧ Q (.bl (!decide (d ∈ ys)))) := by unfold pNotIn; rw [inL, Bool.true_xor]
theorem rd_pNotIn3 : pNotIn d (.tup ys) Q = (inOk d ys = true ∧ Q (.bl (!decide (d ∈ ys)))) := by unfold pNotIn; rw [inT, Bool.true_xor]
theorem rd_pBls {g : List Bool → Bool} {bs : List Bool} : pBls g (.lst (bs.map D.bl)) Q ↔ Q (.bl (g bs)) := by
  unfold pBls
  constructor
  · rintro ⟨cs, h, q⟩
    rw [blsOf_map] at h
    cases h
    exact q
  · exact fun q => ⟨bs, blsOf_map bs, q⟩
theorem rd_pJoin2 : pJoin (.str x) (.tup xs) Q ↔ ∃ ys : List PySem.Str, xs = ys.map D.str ∧ joinOk x ys ∧ Q (.str (Txt.join x ys)) := by
  have e : pJoin (.str x) (.tup xs) Q = pJoin (.str x) (.lst xs) Q := rfl
  rw [e]
  exact rd_pJoin1
end
end Pu

set_option Elab.async false
set_option linter.all false
set_option maxRecDepth 100000
namespace Pu
open PySem PySem.Spec L2
/-! ### comprehensions without an invariant -/
section
variable {g : PTG} {tt : PTT} {te : PTE} {vs : List Nat} {Q : Slot → Env → Prop} {ds : List D} {env : Env}
/-- each element gives one or none, and the names stay -/
theorem comp_fn (f : D → Option D) (hl : ds.length ≤ sizeLine)
    (h : ∀ d ∈ ds, ∀ K : Option D → Env → Prop, K (f d) env → g d env fun e1 => tt e1 fun b e2 => if b = true then te e2 fun y e3 => K (some y) (wipeE e3 vs) else K none (wipeE e2 vs))
    (q : Q (.own (.lst (ds.filterMap f))) env) : ∃ I : Nat → List D → Env → Prop, I 0 [] env ∧ compOk g tt te vs Q ds I := by
  refine ⟨fun i acc e => e = env ∧ acc = (ds.take i).filterMap f, ⟨rfl, rfl⟩, ?_⟩
  rintro i acc e ⟨rfl, rfl⟩
  refine ⟨fun d hd => ?_, fun hi => ?_⟩
  · obtain ⟨hi, h2⟩ := List.getElem?_eq_some_iff.mp hd
    have hm : d ∈ ds := h2 ▸ List.getElem_mem hi
    have hlt : ((ds.take i).filterMap f).length < sizeLine := by
      have := List.length_filterMap_le f (ds.take i)
      rw [List.length_take] at this
      omega
    have ht : ds.take (i + 1) = ds.take i ++ [d] := by rw [List.take_succ, hd]; rfl
    refine h d hm (fun o e' => match o with
      | some y => ((ds.take i).filterMap f).length < sizeLine ∧ e' = e ∧ (ds.take i).filterMap f ++ [y] = (ds.take (i + 1)).filterMap f
      | none => e' = e ∧ (ds.take i).filterMap f = (ds.take (i + 1)).filterMap f) ?_
    cases ho : f d with
    | none => exact ⟨rfl, by rw [ht, List.filterMap_append]; simp [ho]⟩
    | some y => exact ⟨hlt, rfl, by rw [ht, List.filterMap_append]; simp [ho]⟩
  · subst hi
    rw [List.take_length]
    exact q
/-- each element gives one, and the names stay -/
theorem comp_map (f : D → D) (hl : ds.length ≤ sizeLine)
    (h : ∀ d ∈ ds, ∀ K : D → Env → Prop, K (f d) env → g d env fun e1 => te e1 fun y e3 => K y (wipeE e3 vs))
    (q : Q (.own (.lst (ds.map f))) env) : ∃ I : Nat → List D → Env → Prop, I 0 [] env ∧ compOk g tYes' te vs Q ds I := by
  refine comp_fn (fun d => some (f d)) hl (fun d hd K k => ?_) (by rw [List.filterMap_eq_map']; exact q)
  simp only [tYes', if_true]
  exact h d hd (fun y e => K (some y) e) k
/-- each element gives one of some, and the names stay -/
theorem comp_rel (P : D → D → Prop) (hl : ds.length ≤ sizeLine)
    (h : ∀ d ∈ ds, ∀ K : D → Env → Prop, (∀ y, P d y → K y env) → g d env fun e1 => te e1 fun y e3 => K y (wipeE e3 vs))
    (q : ∀ ys, ys.length = ds.length → (∀ y ∈ ys, ∃ d ∈ ds, P d y) → Q (.own (.lst ys)) env) : ∃ I : Nat → List D → Env → Prop, I 0 [] env ∧ compOk g tYes' te vs Q ds I := by
  refine ⟨fun i acc e => e = env ∧ acc.length = i ∧ ∀ y ∈ acc, ∃ d ∈ ds, P d y, ⟨rfl, rfl, by simp⟩, ?_⟩
  rintro i acc e ⟨rfl, rfl, ha⟩
  refine ⟨fun d hd => ?_, fun hi => ?_⟩
  · obtain ⟨hi, h2⟩ := List.getElem?_eq_some_iff.mp hd
    have hm : d ∈ ds := h2 ▸ List.getElem_mem hi
    simp only [tYes', if_true]
    refine h d hm (fun y e' => acc.length < sizeLine ∧ e' = e ∧ (acc ++ [y]).length = acc.length + 1 ∧ ∀ z ∈ acc ++ [y], ∃ d ∈ ds, P d z) ?_
    intro y hy
    refine ⟨by omega, rfl, by simp, fun z hz => ?_⟩
    rcases List.mem_append.mp hz with hz | hz
    · exact ha z hz
    · rw [List.mem_singleton] at hz
      subst hz
      exact ⟨d, hm, hy⟩
  · exact q acc hi ha
theorem map_of {α : Type} {f : α → D} {P : D → Prop} : ∀ {ys : List D}, (∀ y ∈ ys, ∃ x, y = f x ∧ P y) → ∃ xs : List α, ys = xs.map f ∧ ∀ x ∈ xs, P (f x)
  | [], _ => ⟨[], rfl, by simp⟩
  | y :: ys, h => by
    obtain ⟨x, rfl, hx⟩ := h y (by simp)
    obtain ⟨xs, e, hxs⟩ := map_of (f := f) (P := P) (ys := ys) (fun z hz => h z (List.mem_cons_of_mem _ hz))
    subst e
    exact ⟨x :: xs, rfl, by simpa using ⟨hx, hxs⟩⟩
end
/-! ### plain data without bools -/
mutual
def D.nb : D → Bool
  | .bl _ => false
  | .tup xs => D.nbs xs
  | .lst xs => D.nbs xs
  | _ => true
def D.nbs : List D → Bool
  | [] => true
  | x :: xs => D.nb x && D.nbs xs
end
mutual
theorem D.nm_nb : ∀ x y : D, D.nb x = true → D.nb y = true → D.nm x y = true
  | .bl _, _, h, _ => by simp [D.nb] at h
  | .non, y, _, h => by cases y <;> simp [D.nm]
  | .int _, y, _, h => by cases y <;> simp [D.nm, D.nb] at h ⊢
  | .str _, y, _, h => by cases y <;> simp [D.nm]
  | .cls _, y, _, h => by cases y <;> simp [D.nm]
  | .ty _, y, _, h => by cases y <;> simp [D.nm]
  | .dct _ _, y, _, h => by cases y <;> simp [D.nm]
  | .hdl _ _, y, _, h => by cases y <;> simp [D.nm]
  | .exc _ _ _ _, y, _, h => by cases y <;> simp [D.nm]
  | .scr _, y, _, h => by cases y <;> simp [D.nm]
  | .tup xs, y, h, h2 => by
    cases y with
    | tup ys => simp only [D.nm]; exact D.nms_nb xs ys (by simpa [D.nb] using h) (by simpa [D.nb] using h2)
    | _ => simp [D.nm]
  | .lst xs, y, h, h2 => by
    cases y with
    | lst ys => simp only [D.nm]; exact D.nms_nb xs ys (by simpa [D.nb] using h) (by simpa [D.nb] using h2)
    | _ => simp [D.nm]
theorem D.nms_nb : ∀ xs ys : List D, D.nbs xs = true → D.nbs ys = true → D.nms xs ys = true
  | [], _, _, _ => by simp [D.nms]
  | _ :: _, [], _, _ => by simp [D.nms]
  | x :: xs, y :: ys, h, h2 => by
    simp only [D.nbs, Bool.and_eq_true] at h h2
    simp only [D.nms, Bool.and_eq_true]
    exact ⟨D.nm_nb x y h.1 h2.1, D.nms_nb xs ys h.2 h2.2⟩
end
def D.ok (n : Nat) (d : D) : Prop := D.pl n d = true ∧ D.nb d = true
def D.oks (n : Nat) (ds : List D) : Prop := ∀ d ∈ ds, D.ok n d
theorem pls_all {n : Nat} : ∀ {ds : List D}, D.pls n ds = true ↔ ∀ d ∈ ds, D.pl n d = true
  | [] => by simp [D.pls]
  | d :: ds => by simp [D.pls, pls_all]
theorem nbs_all : ∀ {ds : List D}, D.nbs ds = true ↔ ∀ d ∈ ds, D.nb d = true
  | [] => by simp [D.nbs]
  | d :: ds => by simp [D.nbs, nbs_all]
theorem ok_non {n : Nat} : D.ok n .non ↔ True := by cases n <;> simp [D.ok, D.pl, D.nb]
theorem ok_int {n : Nat} {i : Int} : D.ok n (.int i) ↔ True := by cases n <;> simp [D.ok, D.pl, D.nb]
theorem ok_str {n : Nat} {x : Str} : D.ok n (.str x) ↔ okStr x = true := by cases n <;> simp [D.ok, D.pl, D.nb]
theorem ok_tup {n : Nat} {ds : List D} : D.ok (n + 1) (.tup ds) ↔ ∀ d ∈ ds, D.ok n d := by
  simp only [D.ok, D.pl, D.nb, pls_all, nbs_all]
  exact ⟨fun h d hd => ⟨h.1 d hd, h.2 d hd⟩, fun h => ⟨fun d hd => (h d hd).1, fun d hd => (h d hd).2⟩⟩
theorem ok_lst {n : Nat} {ds : List D} : D.ok (n + 1) (.lst ds) ↔ ∀ d ∈ ds, D.ok n d := by
  simp only [D.ok, D.pl, D.nb, pls_all, nbs_all]
  exact ⟨fun h d hd => ⟨h.1 d hd, h.2 d hd⟩, fun h => ⟨fun d hd => (h d hd).1, fun d hd => (h d hd).2⟩⟩
theorem eqOk_ok {x y : D} (h1 : D.ok 60 x) (h2 : D.ok 60 y) : eqOk x y = true := by
  unfold eqOk
  rw [h1.1, h2.1, D.nm_nb x y h1.2 h2.2]
  simp
theorem inOk_ok {x : D} {ds : List D} (h1 : D.ok 59 x) (h2 : ∀ d ∈ ds, D.ok 59 d) : inOk x ds = true := by
  unfold inOk
  rw [h1.1, pls_all.mpr fun d hd => (h2 d hd).1]
  simp only [Bool.true_and, List.all_eq_true]
  exact fun d hd => D.nm_nb d x (h2 d hd).2 h1.2
theorem okStr_of {x : Str} (h : ∀ c ∈ TL.tl x, c < 128) : okStr x = true := by
  unfold okStr
  rw [← Array.all_toList, List.all_eq_true]
  intro c hc
  have := h c hc
  simp
  omega
theorem repOk_of {d : D} (h1 : D.pl 60 d = true) (h2 : D.rok d = true) (h3 : D.rc d ≤ 16777216) : repOk d := ⟨h1, h2, by have := big; omega⟩
/-! ### places -/
theorem rd_at0 {α : Type} {x : α} {xs : List α} : atI (x :: xs) 0 = some x := by
  unfold atI ixN
  rw [if_pos (by omega), if_pos (by simp only [List.length_cons]; omega)]
  rfl
theorem rd_at1 {α : Type} {x y : α} {xs : List α} : atI (x :: y :: xs) 1 = some y := by
  unfold atI ixN
  rw [if_pos (by omega), if_pos (by simp only [List.length_cons]; omega)]
  rfl
theorem rd_at2 {α : Type} {x y z : α} {xs : List α} : atI (x :: y :: z :: xs) 2 = some z := by
  unfold atI ixN
  rw [if_pos (by omega), if_pos (by simp only [List.length_cons]; omega)]
  rfl
theorem rd_at3 {α : Type} {x y z u : α} {xs : List α} : atI (x :: y :: z :: u :: xs) 3 = some u := by
  unfold atI ixN
  rw [if_pos (by omega), if_pos (by simp only [List.length_cons]; omega)]
  rfl
theorem rd_atL {α : Type} {x : α} {xs : List α} : atI (xs ++ [x]) (-1) = some x := by
  unfold atI ixN
  rw [if_neg (by omega), if_pos (by simp only [List.length_append, List.length_cons, List.length_nil]; omega)]
  have e : (-1 + ((xs ++ [x]).length : Int)).toNat = xs.length := by simp only [List.length_append, List.length_cons, List.length_nil]; omega
  simp only [e]
  simp
theorem rd_ixL {n : Nat} : ixN (n + 1) (-1) = some n := by
  unfold ixN
  rw [if_neg (by omega), if_pos (by omega)]
  congr 1
  omega
theorem cut_pre {α : Type} {xs : List α} {n : Nat} : cutD xs none (some (n : Int)) = xs.take n := by
  unfold cutD
  rw [HT.sIx_nat]
  simp only [HT.sIx, Nat.sub_zero, List.drop_zero]
  rw [List.take_eq_take_iff]
  omega
theorem cut_suf {α : Type} {xs : List α} {n : Nat} : cutD xs (some (n : Int)) none = xs.drop n := by
  unfold cutD
  rw [HT.sIx_nat]
  simp only [HT.sIx]
  by_cases h : n ≤ xs.length
  · rw [Nat.min_eq_left h, List.take_of_length_le (by simp)]
  · rw [Nat.min_eq_right (by omega), Nat.sub_self, List.take_zero, List.drop_eq_nil_of_le (by omega)]
theorem cut_le {α : Type} {xs : List α} {lo hi : Option Int} : (cutD xs lo hi).length ≤ xs.length := by
  unfold cutD
  rw [List.length_take, List.length_drop]
  omega
theorem cut_mem {α : Type} {xs : List α} {lo hi : Option Int} {x : α} (h : x ∈ cutD xs lo hi) : x ∈ xs := List.mem_of_mem_drop (List.mem_of_mem_take h)
theorem at_of {α : Type} {xs : List α} {f : α → D} {n : Nat} {c : α} (h : xs[n]? = some c) : atI (xs.map f) (n : Int) = some (f c) := atI_nat (by rw [List.getElem?_map, h]; rfl)
theorem joinL0 : ∀ ps : List (List Nat), TL.joinL [] ps = ps.flatten
  | [] => rfl
  | [p] => by simp [TL.joinL]
  | p :: q :: r => by
    have := joinL0 (q :: r)
    simp only [TL.joinL, List.nil_append, this, List.flatten_cons]
theorem tl_join0 (ls : List Str) : TL.tl (Txt.join "" ls) = (ls.map TL.tl).flatten := by
  rw [TL.join_eq, TL.tl_join]
  exact joinL0 _
theorem join0_len (ls : List Str) : (Txt.join "" ls).length = (ls.map (·.length)).sum := by
  rw [len_cps, show (Txt.join "" ls).cps.toList = _ from tl_join0 ls, List.length_flatten, List.map_map]
  congr 1
theorem sum_len {ls : List Str} {m : Nat} (h : ∀ l ∈ ls, l.length ≤ m) : (ls.map (·.length)).sum ≤ ls.length * m := by
  induction ls with
  | nil => simp
  | cons x xs ih =>
    have h1 := h x (by simp)
    have h2 := ih fun l hl => h l (by simp [hl])
    simp only [List.map_cons, List.sum_cons, List.length_cons, Nat.succ_mul]
    omega
theorem join0_ok {ls : List Str} {m : Nat} (h : ∀ l ∈ ls, l.length ≤ m) (hm : ls.length * m ≤ 16777216) : joinOk "" ls := by
  unfold joinOk
  have := sum_len h
  rw [show (Str.ofString "").length = 0 from by decide +kernel]
  omega
theorem pth_str {p : List Str} : TL.tl (Str.ofString "") = [] := by decide +kernel
theorem sgn_len (t : Str) : (signsD t).length = t.length := by rw [signsD, List.length_map, len_cps]
theorem str_empty {x : Str} : x = Str.ofString "" ↔ x.length = 0 := by
  constructor
  · rintro rfl; decide +kernel
  · intro h
    apply TL.ext_tl
    rw [pth_str (p := [])]
    rw [len_cps] at h
    exact List.eq_nil_of_length_eq_zero h
theorem app_len (x y : Str) : (x ++ y).length = x.length + y.length := Str.length_append x y
theorem at_in {v : Int} {xs : List D} {Q : D → Prop} (h0 : 0 ≤ v) (h1 : v < xs.length) (h : ∀ d ∈ xs, Q d) : ∃ d, atI xs v = some d ∧ Q d := by
  have hv : v.toNat < xs.length := by omega
  refine ⟨xs[v.toNat], ?_, h _ (List.getElem_mem hv)⟩
  have e : ((v.toNat : Nat) : Int) = v := by omega
  have q := atI_nat (List.getElem?_eq_getElem hv)
  rw [e] at q
  exact q
theorem rd_pRepr {d : D} {Q : D → Prop} : pRepr d Q = (repOk d ∧ Q (.str (reprD d))) := rfl
/-! ### pairs of ints by order -/
section
variable {a b c d : Int} {Q : D → Prop}
theorem cmp_ii : cmpOk (.tup [.int a, .int b]) (.tup [.int c, .int d]) = true := rfl
theorem ltD_ii : D.ltD (.tup [.int a, .int b]) (.tup [.int c, .int d]) = decide (a < c ∨ (a = c ∧ b < d)) := PySem.W.dataLt_ii a b c d
theorem rd_pGt2 : pGt (.tup [.int a, .int b]) (.tup [.int c, .int d]) Q ↔ Q (.bl (decide (c < a ∨ (c = a ∧ d < b)))) := by
  show (cmpOk _ _ = true ∧ Q (.bl (D.ltD _ _))) ↔ _
  rw [ltD_ii]
  exact ⟨fun h => h.2, fun h => ⟨cmp_ii, h⟩⟩
theorem rd_pLt2 : pLt (.tup [.int a, .int b]) (.tup [.int c, .int d]) Q ↔ Q (.bl (decide (a < c ∨ (a = c ∧ b < d)))) := by
  show (cmpOk _ _ = true ∧ Q (.bl (D.ltD _ _))) ↔ _
  rw [ltD_ii]
  exact ⟨fun h => h.2, fun h => ⟨cmp_ii, h⟩⟩
end
mutual
theorem D.pl_up : ∀ {n m : Nat} {d : D}, n ≤ m → D.pl n d = true → D.pl m d = true
  | _, m, .non, _, _ => by cases m <;> rfl
  | _, m, .bl _, _, _ => by cases m <;> rfl
  | _, m, .int _, _, _ => by cases m <;> rfl
  | n, m, .str x, _, h => by
    have h' : okStr x = true := by cases n <;> simpa only [D.pl] using h
    cases m <;> simpa only [D.pl] using h'
  | n + 1, m + 1, .tup xs, hm, h => by
    simp only [D.pl] at h ⊢
    exact D.pls_up (by omega) h
  | n + 1, m + 1, .lst xs, hm, h => by
    simp only [D.pl] at h ⊢
    exact D.pls_up (by omega) h
  | n + 1, 0, .tup xs, hm, h => by omega
  | n + 1, 0, .lst xs, hm, h => by omega
  | 0, _, .tup _, _, h => by simp [D.pl] at h
  | 0, _, .lst _, _, h => by simp [D.pl] at h
  | n, _, .dct _ _, _, h => by cases n <;> simp [D.pl] at h
  | n, _, .hdl _ _, _, h => by cases n <;> simp [D.pl] at h
  | n, _, .cls _, _, h => by cases n <;> simp [D.pl] at h
  | n, _, .ty _, _, h => by cases n <;> simp [D.pl] at h
  | n, _, .exc _ _ _ _, _, h => by cases n <;> simp [D.pl] at h
  | n, _, .scr _, _, h => by cases n <;> simp [D.pl] at h
theorem D.pls_up : ∀ {n m : Nat} {ds : List D}, n ≤ m → D.pls n ds = true → D.pls m ds = true
  | _, _, [], _, _ => rfl
  | n, m, d :: ds, hm, h => by
    simp only [D.pls, Bool.and_eq_true] at h ⊢
    exact ⟨D.pl_up hm h.1, D.pls_up hm h.2⟩
end
end Pu

set_option Elab.async false
set_option linter.all false
set_option maxRecDepth 100000
namespace Pu
open PySem PySem.Spec L2
/-! ### texts as lists of signs -/
theorem cutS_nat {z : Str} {i j : Nat} (hij : i ≤ j) : cutS z (some (i : Int)) (some (j : Int)) = SX.S ((z.cps.toList.drop i).take (j - i)) := by
  unfold cutS
  rw [HT.sIx_nat z.length z.length j, HT.sIx_nat z.length 0 i]
  have hl := len_cps z
  refine congrArg SX.S ?_
  by_cases hi : i ≤ z.length
  · rw [Nat.min_eq_left hi]
    by_cases hj : j ≤ z.length
    · rw [Nat.min_eq_left hj]
    · rw [Nat.min_eq_right (by omega), List.take_of_length_le (by rw [List.length_drop]; omega), List.take_of_length_le (by rw [List.length_drop]; omega)]
  · rw [Nat.min_eq_right (by omega), Nat.min_eq_right (by omega), Nat.sub_self, List.take_zero, List.drop_eq_nil_of_le (by omega), List.take_nil]
theorem cutS_to {z : Str} {j : Nat} : cutS z none (some (j : Int)) = SX.S (z.cps.toList.take j) := by
  have := cutS_nat (z := z) (i := 0) (j := j) (by omega)
  rw [List.drop_zero, Nat.sub_zero] at this
  rw [← this]
  unfold cutS
  rw [HT.sIx_nat z.length 0 0, Nat.zero_min]
  rfl
theorem cutS_from {z : Str} {i : Nat} : cutS z (some (i : Int)) none = SX.S (z.cps.toList.drop i) := by
  have := cutS_nat (z := z) (i := i) (j := max i z.length) (by omega)
  have hl := len_cps z
  rw [List.take_of_length_le (by rw [List.length_drop]; omega)] at this
  rw [← this]
  unfold cutS
  rw [HT.sIx_nat z.length z.length, Nat.min_eq_right (by omega)]
  rfl
theorem S_app (a b : List Nat) : SX.S a ++ SX.S b = SX.S (a ++ b) := SX.S_cat a b
theorem S_cps (a : List Nat) : (SX.S a).cps.toList = a := rfl
theorem S_inj {a b : List Nat} : SX.S a = SX.S b ↔ a = b := ⟨fun h => congrArg TL.tl h, fun h => by rw [h]⟩
theorem S_of (x : Str) : x = SX.S x.cps.toList := TL.ext_tl rfl
theorem S_one (c : Nat) : (⟨#[c]⟩ : Str) = SX.S [c] := rfl
theorem str_num (n : Nat) : Str.ofString (toString (n : Int)) = SX.S (TL.numL n) := SX.num_S n
theorem nat_log {n : Nat} (h : n < 2 ^ 1000) : (n : Int).natAbs.log2 < 1920 := by
  rw [Int.natAbs_natCast]
  by_cases h0 : n = 0
  · subst h0; decide
  · have := (Nat.log2_lt h0).mpr h
    omega
theorem sgn_get {z : Str} {i : Nat} {d : D} (h : (signsD z)[i]? = some d) : ∃ c, z.cps.toList[i]? = some c ∧ d = .str ⟨#[c]⟩ ∧ i < z.cps.toList.length := by
  unfold signsD at h
  rw [List.getElem?_map] at h
  cases q : z.cps.toList[i]? with
  | none => rw [q] at h; cases h
  | some c =>
    rw [q] at h
    exact ⟨c, rfl, (Option.some.inj h).symm, (List.getElem?_eq_some_iff.mp q).1⟩
theorem take_next {α : Type} {l : List α} {i : Nat} {c : α} (h : l[i]? = some c) : l.take (i + 1) = l.take i ++ [c] := by rw [List.take_succ, h]; rfl
/-! ### digits -/
theorem val_snoc (r : List Nat) (c : Nat) : NumText.digitsVal (r ++ [c]) = NumText.digitsVal r * 10 + (c - 48) := by
  unfold NumText.digitsVal
  rw [List.foldl_append]
  rfl
theorem numL_back : ∀ (n : Nat) (l : List Nat), l.length = n → (∀ c ∈ l, 48 ≤ c ∧ c ≤ 57) → l ≠ [] → (l = [48] ∨ l.head? ≠ some 48) → TL.numL (NumText.digitsVal l) = l
  | 0, l, hn, _, hne, _ => absurd (List.eq_nil_of_length_eq_zero hn) hne
  | n + 1, l, hn, hd, hne, hh => by
    obtain ⟨r, c, rfl⟩ : ∃ r c, l = r ++ [c] := ⟨l.dropLast, l.getLast hne, (List.dropLast_concat_getLast hne).symm⟩
    have hc := hd c (by simp)
    rw [val_snoc]
    by_cases hr : r = []
    · subst hr
      rw [show NumText.digitsVal [] = 0 from rfl, TL.numL_lt (by omega)]
      simp only [List.nil_append, List.cons.injEq, and_true]
      omega
    · have h1 : r.head? ≠ some 48 := by
        rcases hh with hh | hh
        · have := congrArg List.length hh
          simp at this
          exact absurd this hr
        · cases r with
          | nil => exact absurd rfl hr
          | cons x r => simpa using hh
      have ih := numL_back n r (by simp at hn; omega) (fun c hc => hd c (by simp [hc])) hr (.inr h1)
      have hv : 1 ≤ NumText.digitsVal r := by
        rcases Nat.eq_zero_or_pos (NumText.digitsVal r) with z | z
        · rw [z, TL.numL_lt (by omega)] at ih
          rw [← ih] at h1
          exact absurd rfl h1
        · exact z
      rw [TL.numL_step (by omega), show (NumText.digitsVal r * 10 + (c - 48)) / 10 = NumText.digitsVal r by omega, ih, show 48 + (NumText.digitsVal r * 10 + (c - 48)) % 10 = c by omega]
/-! ### splitting at one sign -/
theorem spl1 (s : Nat) (l acc : List Nat) : (s ∉ l ∧ TL.spl [s] 0 acc l = [acc ++ l]) ∨ ∃ p q, l = p ++ s :: q ∧ s ∉ p ∧ TL.spl [s] 0 acc l = (acc ++ p) :: TL.spl [s] 0 [] q := by
  by_cases h : s ∈ l
  · obtain ⟨p, q, rfl, hp⟩ := List.eq_append_cons_of_mem h
    exact .inr ⟨p, q, rfl, hp, TL.spl_part1 (S := []) hp⟩
  · exact .inl ⟨h, TL.spl_last1 h⟩
theorem spl1_two {s : Nat} {l : List Nat} (h : (TL.spl [s] 0 [] l).length = 2) : ∃ p q, l = p ++ s :: q ∧ s ∉ p ∧ s ∉ q ∧ TL.spl [s] 0 [] l = [p, q] := by
  rcases spl1 s l [] with ⟨_, e⟩ | ⟨p, q, rfl, hp, e⟩
  · rw [e] at h
    cases h
  · rcases spl1 s q [] with ⟨hq, e2⟩ | ⟨p2, q2, rfl, _, e2⟩
    · exact ⟨p, q, rfl, hp, hq, by rw [e, e2]; rfl⟩
    · rcases spl1 s q2 [] with ⟨_, e3⟩ | ⟨_, _, _, _, e3⟩
      · rw [e, e2, e3] at h
        cases h
      · rw [e, e2, e3] at h
        simp at h
theorem first_eq {s : Nat} : ∀ {x y a b : List Nat}, s ∉ x → s ∉ y → x ++ s :: a = y ++ s :: b → x = y ∧ a = b
  | [], [], a, b, _, _, e => ⟨rfl, by simpa using e⟩
  | [], c :: y, a, b, _, hy, e => by simp at e; exact absurd (by simp [← e.1]) hy
  | c :: x, [], a, b, hx, _, e => by simp at e; exact absurd (by simp [e.1]) hx
  | c :: x, d :: y, a, b, hx, hy, e => by
    simp only [List.cons_append, List.cons.injEq] at e
    obtain ⟨h1, h2⟩ := first_eq (fun z => hx (by simp [z])) (fun z => hy (by simp [z])) e.2
    exact ⟨by rw [e.1, h1], h2⟩
theorem int_digits {l : List Nat} (h : ∀ c ∈ l, 48 ≤ c ∧ c ≤ 57) (h1 : l ≠ []) (h2 : l.length ≤ 640) : PySem.intText? (SX.S l) = some ((NumText.digitsVal l : Nat) : Int) :=
  PySem.intText_digits (x := SX.S l) h h1 (by rw [SX.S_len]; omega)
/-- all of a list, kept together -/
def AllIn (xs : List D) (P : D → Prop) : Prop := ∀ d ∈ xs, P d
end Pu

set_option Elab.async false
set_option linter.all false
set_option maxRecDepth 100000
namespace Lk70
open PySem PySem.Spec L2 Pu
/-! ### what the defs do -/
def chk (l : List Nat) : Nat := l.foldl (fun n c => (n * 257 + c + 1) % 4294967291) 7
def bodyL (k : Nat) (t : List Nat) : List Nat := TL.numL k ++ [32] ++ TL.numL t.length ++ [58] ++ t
def recL (k : Nat) (t : List Nat) : List Nat := bodyL k t ++ [58] ++ TL.numL (chk (bodyL k t)) ++ [59]
def Match (l : List Nat) (k : Nat) (t : List Nat) : Prop := (k = 1 ∨ k = 2 ∨ k = 3) ∧ recL k t <+: l
def isNum (l : List Nat) : Bool := !(decide (l = []) || decide (l.length > 6) || l.any fun c => !decide (c ∈ (Str.ofString "0123456789").cps.toList)) && (decide (l = [48]) || !decide (l.head? = some 48))
def recD (r : Nat × List Nat) : D := .tup [.int r.1, .str (SX.S r.2)]
inductive Reads : List Nat → List (Nat × List Nat) → Nat → Prop where
  | nil {l : List Nat} (h : ∀ k t, ¬ Match l k t) : Reads l [] 0
  | cons {l : List Nat} {k : Nat} {t : List Nat} {rs : List (Nat × List Nat)} {m : Nat} (h : Match l k t) (r : Reads (l.drop (recL k t).length) rs m) : Reads l ((k, t) :: rs) ((recL k t).length + m)
/-! ### what they promise -/
def ps_law_state : PSp := psOf (fun ns : List Int => [.frz (.scr ns)]) fun ns Q _ => ns.length ≤ 63 ∧ Q (.own stA) [.nil]
abbrev ps_law_draw : PSp := psDraw
def ps_law_pick : PSp := psOf (fun xs : List D => [.par stA, .frz (.lst xs)]) fun xs Q _ => xs ≠ [] ∧ xs.length < 1073741824 ∧ ∀ d ∈ xs, Q (.frz d) [.par stA, .nil]
def ps_law_record : PSp := psOf (fun a : Nat × Str => [.frz (.int a.1), .frz (.str a.2)]) fun a Q _ => a.1 ≤ 9 ∧ a.2.length ≤ 100000 ∧ Q (.frz (.str (SX.S (recL a.1 a.2.cps.toList)))) [.nil, .nil]
def ps_record_text : PSp := ps_law_record
def ps_check_number : PSp := psOf (fun x : Str => [.frz (.str x)]) fun x Q _ => x.length ≤ 1000000 ∧ Q (.frz (.int (chk x.cps.toList))) [.nil]
def ps_is_number : PSp := psOf (fun x : Str => [.frz (.str x)]) fun x Q _ => x.length ≤ 1000000 ∧ Q (.frz (.bl (isNum x.cps.toList))) [.nil]
def ps_read_record : PSp := psOf (fun a : Str × Nat => [.frz (.str a.1), .frz (.int a.2)]) fun a Q _ => a.1.length ≤ 100000 ∧ (∀ c ∈ a.1.cps.toList, c < 128) ∧ (∀ k t, Match (a.1.cps.toList.drop a.2) k t → Q (.frz (.tup [.int k, .str (SX.S t), .int (a.2 + (recL k t).length : Nat)])) [.nil, .nil]) ∧ ((∀ k t, ¬ Match (a.1.cps.toList.drop a.2) k t) → Q (.frz .non) [.nil, .nil])
def ps_read_records : PSp := psOf (fun x : Str => [.frz (.str x)]) fun x Q _ => x.length ≤ 100000 ∧ (∀ c ∈ x.cps.toList, c < 128) ∧ ∀ rs m, Reads x.cps.toList rs m → Q (.frz (.tup [.lst (rs.map recD), .int (m : Nat)])) [.nil]
def ps_law_read : PSp := ps_read_records
def topS (i : Nat) : Stmt := PySem.Challenge.pw_quiltward_k70_records_on_tapes.main.body.getD i (.Pass ⟨0, 0, 0, 0⟩)
def k_KINDS : D := (.tup [(.str "1"), (.str "2"), (.str "3")])
abbrev s_law_state : Stmt := topS 10
abbrev n_law_state : List Str := ["_law_script", "_law_seed", "_law_cell"]
theorem sc_law_state : FnScope n_law_state ["_law_script"] (defScope s_law_state) := ⟨rfl, rfl, rfl, by decide +kernel, rfl, by decide +kernel, by decide +kernel⟩
abbrev s_law_draw : Stmt := topS 11
abbrev n_law_draw : List Str := ["_law_state_here", "_law_many", "_law_cells", "_law_value", "_law_mixed"]
theorem sc_law_draw : FnScope n_law_draw ["_law_state_here", "_law_many"] (defScope s_law_draw) := ⟨rfl, rfl, rfl, by decide +kernel, rfl, by decide +kernel, by decide +kernel⟩
abbrev s_law_pick : Stmt := topS 12
abbrev n_law_pick : List Str := ["_law_state_here", "_law_row"]
theorem sc_law_pick : FnScope n_law_pick ["_law_state_here", "_law_row"] (defScope s_law_pick) := ⟨rfl, rfl, rfl, by decide +kernel, rfl, by decide +kernel, by decide +kernel⟩
abbrev s_law_record : Stmt := topS 13
abbrev n_law_record : List Str := ["_law_kind", "_law_text", "_law_body", "_law_number", "_law_char"]
theorem sc_law_record : FnScope n_law_record ["_law_kind", "_law_text"] (defScope s_law_record) := ⟨rfl, rfl, rfl, by decide +kernel, rfl, by decide +kernel, by decide +kernel⟩
abbrev s_check_number : Stmt := topS 4
abbrev n_check_number : List Str := ["text", "number", "char"]
theorem sc_check_number : FnScope n_check_number ["text"] (defScope s_check_number) := ⟨rfl, rfl, rfl, by decide +kernel, rfl, by decide +kernel, by decide +kernel⟩
abbrev s_record_text : Stmt := topS 5
abbrev n_record_text : List Str := ["kind", "text", "body"]
theorem sc_record_text : FnScope n_record_text ["kind", "text"] (defScope s_record_text) := ⟨rfl, rfl, rfl, by decide +kernel, rfl, by decide +kernel, by decide +kernel⟩
abbrev s_is_number : Stmt := topS 6
abbrev n_is_number : List Str := ["text", "char"]
theorem sc_is_number : FnScope n_is_number ["text"] (defScope s_is_number) := ⟨rfl, rfl, rfl, by decide +kernel, rfl, by decide +kernel, by decide +kernel⟩
abbrev s_read_record : Stmt := topS 7
abbrev n_read_record : List Str := ["data", "at", "head", "words", "start", "end", "tail"]
theorem sc_read_record : FnScope n_read_record ["data", "at"] (defScope s_read_record) := ⟨rfl, rfl, rfl, by decide +kernel, rfl, by decide +kernel, by decide +kernel⟩
abbrev s_read_records : Stmt := topS 8
abbrev n_read_records : List Str := ["data", "found", "at", "record", "kind", "text"]
theorem sc_read_records : FnScope n_read_records ["data"] (defScope s_read_records) := ⟨rfl, rfl, rfl, by decide +kernel, rfl, by decide +kernel, by decide +kernel⟩
abbrev s_law_read : Stmt := topS 14
abbrev n_law_read : List Str := ["_law_data", "_law_found", "_law_at", "_law_turn", "_law_best", "_law_kind", "_law_size", "_law_start", "_law_text"]
theorem sc_law_read : FnScope n_law_read ["_law_data"] (defScope s_law_read) := ⟨rfl, rfl, rfl, by decide +kernel, rfl, by decide +kernel, by decide +kernel⟩
abbrev s_law : Stmt := topS 15
abbrev n_law : List Str := ["_law_script", "_law_state_here", "_law_data", "_law_rows", "_law_k", "_law_kind", "_law_text", "_law_told", "_law_at", "_law_char", "_law_other"]
theorem sc_law : FnScope n_law ["_law_script"] (defScope s_law) := ⟨rfl, rfl, rfl, by decide +kernel, rfl, by decide +kernel, by decide +kernel⟩
def p_law_state : PTS := (sSeq (sSet 1 (oE (eC (.int 7))))
    (sSeq (sForI (iL (eVar 0)) (gN 2) (sSet 1 (oE (eOp (pI2 (fun _ j => 0 < j) fun i j => .int (i % j)) (eCB (p1 pInt) (eCons (eOp pAdd (eOp pMul (eVar 1) (eC (.int 31))) (eVar 2)) eNil)) (eC (.int 1000003))))))
    (sRet (oSt (oComp (iL (eVar 0)) (gN 2) tYes' (eCB (p1 pAbs) (eCons (eVar 2) eNil)) [2]) (qOp pAdd (qVar 1) (qC (.int 1)))))))
def p_law_pick : PTS := (sRet (oE (eOp pIx (eVar 1) (eO (oCall ps_law_draw NoX (cRef 0 (cVal (eQ (qCB (p1 pLen) (qCons (qVar 1) qNil))) cNil)))))))
def p_law_record : PTS := (sSeq (sSet 2 (oE (eOp pAdd (eOp pAdd (eOp pAdd (eOp pAdd (eCB (p1 pStr) (eCons (eVar 0) eNil)) (eC (.str " "))) (eCB (p1 pStr) (eCons (eQ (qCB (p1 pLen) (qCons (qVar 1) qNil))) eNil))) (eC (.str ":"))) (eVar 1))))
    (sSeq (sSet 3 (oE (eC (.int 7))))
    (sSeq (sForI (iS (eVar 2)) (gN 4) (sSet 3 (oE (eOp (pI2 (fun _ j => 0 < j) fun i j => .int (i % j)) (eCB (p1 pInt) (eCons (eOp pAdd (eOp pAdd (eOp pMul (eVar 3) (eC (.int 257))) (eQ (qCB (p1 pOrd) (qCons (qVar 4) qNil)))) (eC (.int 1))) eNil)) (eC (.int 4294967291))))))
    (sRet (oE (eOp pAdd (eOp pAdd (eOp pAdd (eVar 2) (eC (.str ":"))) (eCB (p1 pStr) (eCons (eVar 3) eNil))) (eC (.str ";"))))))))
def p_check_number : PTS := (sSeq (sSet 1 (oE (eC (.int 7))))
    (sSeq (sForI (iS (eVar 0)) (gN 2) (sSet 1 (oE (eOp (pI2 (fun _ j => 0 < j) fun i j => .int (i % j)) (eCB (p1 pInt) (eCons (eOp pAdd (eOp pAdd (eOp pMul (eVar 1) (eC (.int 257))) (eQ (qCB (p1 pOrd) (qCons (qVar 2) qNil)))) (eC (.int 1))) eNil)) (eC (.int 4294967291))))))
    (sRet (oMove 1))))
def p_record_text : PTS := (sSeq (sSet 2 (oE (eOp pAdd (eOp pAdd (eOp pAdd (eOp pAdd (eCB (p1 pStr) (eCons (eVar 0) eNil)) (eC (.str " "))) (eCB (p1 pStr) (eCons (eQ (qCB (p1 pLen) (qCons (qVar 1) qNil))) eNil))) (eC (.str ":"))) (eVar 1))))
    (sRet (oE (eOp pAdd (eOp pAdd (eOp pAdd (eVar 2) (eC (.str ":"))) (eCB (p1 pStr) (eCons (eO (oCall ps_check_number NoX (cVal (eVar 2) cNil))) eNil))) (eC (.str ";"))))))
def p_is_number : PTS := (sSeq (sIf (eOr (tQ (qB (qOp pEq (qVar 0) (qC (.str ""))))) (eOr (tQ (qB (qOp pGt (qCB (p1 pLen) (qCons (qVar 0) qNil)) (qC (.int 6))))) (tB' (eCB (p1 (pBls fun bs => bs.any id)) (eCons (eO (oComp (iS (eVar 0)) (gN 1) tYes' (eQ (qOp pNotIn (qVar 1) (qC (.str "0123456789")))) [1])) eNil))))) (sRet (oE (eC (.bl false)))) sNext)
    (sRet (oE (eQ (qOrV (qOp pEq (qVar 0) (qC (.str "0"))) (qOp pNe (qOp pIx (qVar 0) (qC (.int 0))) (qC (.str "0"))))))))
def p_read_record : PTS := (sSeq (sSet 2 (oE (eOp pIx (eM1 pSplit (eCut (eVar 0) (qPart (qVar 1)) (qPart (qOp pAdd (qVar 1) (qC (.int 9))))) (eC (.str ":"))) (eC (.int 0)))))
    (sSeq (sSet 3 (oE (eM1 pSplit (eVar 2) (eC (.str " ")))))
    (sSeq (sIf (tQ (qOr (qB (qOp pNotIn (qC (.str ":")) (qCut (qVar 0) (qPart (qVar 1)) (qPart (qOp pAdd (qVar 1) (qC (.int 9))))))) (qOr (qB (qOp pNe (qCB (p1 pLen) (qCons (qVar 3) qNil)) (qC (.int 2)))) (qOr (qB (qOp pNotIn (qOp pIx (qVar 3) (qC (.int 0))) (qC k_KINDS))) (qNot (qB (qCall ps_is_number (qCons (qOp pIx (qVar 3) (qC (.int 1))) qNil)))))))) (sRet (oE (eC .non))) sNext)
    (sSeq (sSet 4 (oE (eOp pAdd (eOp pAdd (eVar 1) (eQ (qCB (p1 pLen) (qCons (qVar 2) qNil)))) (eC (.int 1)))))
    (sSeq (sSet 5 (oE (eOp pAdd (eVar 4) (eCB (p1 pInt) (eCons (eIxV 3 (qC (.int 1))) eNil)))))
    (sSeq (sSet 6 (oE (eOp pAdd (eOp pAdd (eC (.str ":")) (eCB (p1 pStr) (eCons (eO (oCall ps_check_number NoX (cVal (eCut (eVar 0) (qPart (qVar 1)) (qPart (qVar 5))) cNil))) eNil))) (eC (.str ";")))))
    (sSeq (sIf (tQ (qB (qOp pNe (qCut (qVar 0) (qPart (qVar 5)) (qPart (qOp pAdd (qVar 5) (qCB (p1 pLen) (qCons (qVar 6) qNil))))) (qVar 6)))) (sRet (oE (eC .non))) sNext)
    (sRet (oE (eTup (eCons (eCB (p1 pInt) (eCons (eIxV 3 (qC (.int 0))) eNil)) (eCons (eCut (eVar 0) (qPart (qVar 4)) (qPart (qVar 5))) (eCons (eOp pAdd (eVar 5) (eQ (qCB (p1 pLen) (qCons (qVar 6) qNil)))) eNil)))))))))))))
def p_read_records : PTS := (sSeq (sSet 1 (oLst eNil))
    (sSeq (sSet 2 (oE (eC (.int 0))))
    (sSeq (sSet 3 (oE (eO (oCall ps_read_record NoX (cVal (eVar 0) (cVal (eVar 2) cNil))))))
    (sSeq (sWhile (tQ (qB (qOp pNotN (qVar 3) (qC .non)))) (sSeq (sAsg (gT 3 (gsCons (gN 4) (gsCons (gN 5) (gsCons (gN 2) gsNil)))) (eVar 3))
    (sSeq (sApp 1 (eTup (eCons (eVar 4) (eCons (eVar 5) eNil))))
    (sSet 3 (oE (eO (oCall ps_read_record NoX (cVal (eVar 0) (cVal (eVar 2) cNil)))))))))
    (sRet (oE (eTup (eCons (eVar 1) (eCons (eVar 2) eNil)))))))))
def p_law_read : PTS := (sSeq (sSet 1 (oLst eNil))
    (sSeq (sSet 2 (oE (eC (.int 0))))
    (sSeq (sForI (iR1 (eCons (eOp (pI2 CDiv fun i j => .int (i / j)) (eQ (qCB (p1 pLen) (qCons (qVar 0) qNil))) (eC (.int 7))) eNil)) (gN 3) (sSeq (sSet 4 (oE (eC .non)))
    (sSeq (sForI (iT (eTup (eCons (eC (.int 1)) (eCons (eC (.int 2)) (eCons (eC (.int 3)) eNil))))) (gN 5) (sForI (iR1 (eCons (eOp (pI0 fun i j => .int (i - j)) (eQ (qCB (p1 pLen) (qCons (qVar 0) qNil))) (eVar 2)) eNil)) (gN 6) (sSeq (sSet 7 (oE (eOp pAdd (eOp pAdd (eOp pAdd (eCB (p1 pStr) (eCons (eVar 5) eNil)) (eC (.str " "))) (eCB (p1 pStr) (eCons (eVar 6) eNil))) (eC (.str ":")))))
    (sSeq (sSet 8 (oE (eCut (eVar 0) (qPart (qOp pAdd (qVar 2) (qCB (p1 pLen) (qCons (qVar 7) qNil)))) (qPart (qOp pAdd (qOp pAdd (qVar 2) (qCB (p1 pLen) (qCons (qVar 7) qNil))) (qVar 6))))))
    (sIf (tQ (qAnd (qB (qOp pEq (qCut (qVar 0) (qPart (qVar 2)) (qPart (qOp pAdd (qVar 2) (qCB (p1 pLen) (qCons (qVar 7) qNil))))) (qVar 7))) (qB (qOp pEq (qCut (qVar 0) (qPart (qVar 2)) (qPart (qOp pAdd (qVar 2) (qCB (p1 pLen) (qCons (qCall ps_law_record (qCons (qVar 5) (qCons (qVar 8) qNil))) qNil))))) (qCall ps_law_record (qCons (qVar 5) (qCons (qVar 8) qNil))))))) (sSet 4 (oE (eTup (eCons (eVar 5) (eCons (eVar 8) eNil))))) sNext)))))
    (sSeq (sIf (tQ (qB (qOp pIsN (qVar 4) (qC .non)))) sBreak sNext)
    (sSeq (sApp 1 (eVar 4))
    (sSet 2 (oE (eOp pAdd (eVar 2) (eQ (qCB (p1 pLen) (qCons (qCall ps_law_record (qCons (qOp pIx (qVar 4) (qC (.int 0))) (qCons (qOp pIx (qVar 4) (qC (.int 1))) qNil))) qNil)))))))))))
    (sRet (oE (eTup (eCons (eVar 1) (eCons (eVar 2) eNil))))))))
def p_law : PTS := (sSeq (sSet 1 (oCall ps_law_state NoX (cVal (eVar 0) cNil)))
    (sSeq (sSet 2 (oE (eC (.str ""))))
    (sSeq (sSet 3 (oLst eNil))
    (sSeq (sForI (iR1 (eCons (eO (oCall ps_law_draw NoX (cRef 1 (cVal (eC (.int 6)) cNil)))) eNil)) (gN 4) (sSeq (sSet 5 (oE (eO (oCall ps_law_pick NoX (cRef 1 (cVal (eLst (eCons (eC (.int 1)) (eCons (eC (.int 2)) (eCons (eC (.int 2)) (eCons (eC (.int 3)) eNil))))) cNil))))))
    (sSeq (sSet 6 (oE (eO (oCall ps_law_pick NoX (cRef 1 (cVal (eLst (eCons (eC (.str "")) (eCons (eC (.str "a")) (eCons (eC (.str "2 1:a:")) (eCons (eO (oCall ps_law_record NoX (cVal (eC (.int 3)) (cVal (eC (.str "")) cNil)))) (eCons (eOp pMul (eC (.str "x")) (eO (oCall ps_law_draw NoX (cRef 1 (cVal (eC (.int 120)) cNil))))) (eCons (eC (.str ":;")) (eCons (eC (.str "7")) eNil)))))))) cNil))))))
    (sSeq (sSet 7 (oE (eO (oCall ps_record_text NoX (cVal (eVar 5) (cVal (eVar 6) cNil))))))
    (sSeq (sIf (tQ (qB (qOp pNe (qVar 7) (qCall ps_law_record (qCons (qVar 5) (qCons (qVar 6) qNil)))))) (sRet (oE (eC (.bl false)))) sNext)
    (sSeq (sSet 2 (oE (eOp pAdd (eVar 2) (eVar 7))))
    (sApp 3 (eTup (eCons (eVar 5) (eCons (eVar 6) eNil))))))))))
    (sSeq (sIf (tQ (qOr (qB (qOp pNe (qCall ps_read_records (qCons (qVar 2) qNil)) (qTup (qCons (qVar 3) (qCons (qCB (p1 pLen) (qCons (qVar 2) qNil)) qNil))))) (qB (qOp pNe (qCall ps_read_records (qCons (qC (.str "")) qNil)) (qTup (qCons (qLst qNil) (qCons (qC (.int 0)) qNil))))))) (sRet (oE (eC (.bl false)))) sNext)
    (sSeq (sForI (iR1 (eCons (eC (.int 4)) eNil)) (gN 4) (sSeq (sSet 8 (oE (eO (oCall ps_law_draw NoX (cRef 1 (cVal (eOp pAdd (eQ (qCB (p1 pLen) (qCons (qVar 2) qNil))) (eC (.int 1))) cNil))))))
    (sSeq (sSet 9 (oE (eO (oCall ps_law_pick NoX (cRef 1 (cVal (eLst (eCons (eC (.str "0")) (eCons (eC (.str "1")) (eCons (eC (.str ":")) (eCons (eC (.str ";")) (eCons (eC (.str " ")) (eCons (eC (.str "a")) (eCons (eC (.str "2")) eNil)))))))) cNil))))))
    (sSeq (sSet 10 (oE (eO (oCall ps_law_pick NoX (cRef 1 (cVal (eLst (eCons (eCut (eVar 2) qNo (qPart (qVar 8))) (eCons (eOp pAdd (eOp pAdd (eCut (eVar 2) qNo (qPart (qVar 8))) (eVar 9)) (eCut (eVar 2) (qPart (qOp pAdd (qVar 8) (qC (.int 1)))) qNo)) (eCons (eOp pAdd (eCut (eVar 2) qNo (qPart (qVar 8))) (eCut (eVar 2) (qPart (qOp pAdd (qVar 8) (qC (.int 1)))) qNo)) (eCons (eOp pAdd (eOp pAdd (eCut (eVar 2) qNo (qPart (qVar 8))) (eVar 9)) (eCut (eVar 2) (qPart (qVar 8)) qNo)) (eCons (eOp pAdd (eVar 2) (eC (.str "3 0:"))) eNil)))))) cNil))))))
    (sSeq (sSet 7 (oE (eO (oCall ps_read_records NoX (cVal (eVar 10) cNil)))))
    (sIf (tQ (qOr (qNot (qB (qCB (p2 pIsi) (qCons (qVar 7) (qCons (qC (.ty "tuple")) qNil))))) (qAnd (qB (qOp pLe (qCB (p1 pLen) (qCons (qVar 10) qNil)) (qC (.int 300)))) (qB (qOp pNe (qVar 7) (qCall ps_law_read (qCons (qVar 10) qNil))))))) (sRet (oE (eC (.bl false)))) sNext))))))
    (sRet (oE (eQ (qOp pEq (qCall ps_check_number (qCons (qC (.str "")) qNil)) (qC (.int 7))))))))))))

end Lk70

set_option Elab.async false
set_option linter.all false
set_option maxRecDepth 100000
namespace Lk70
open PySem PySem.Spec L2 Pu
theorem c_state {ns : List Int} {Q : Pu.Slot → Pu.Env → Prop} {X : XP} : ps_law_state [.frz (.scr ns)] Q X ↔ ns.length ≤ 63 ∧ Q (.own stA) [.nil] := psOf_iff (A := fun ns : List Int => [.frz (.scr ns)]) ns fun y e => by cases e; rfl
theorem c_pick {xs : List D} {Q : Pu.Slot → Pu.Env → Prop} {X : XP} : ps_law_pick [.par stA, .frz (.lst xs)] Q X ↔ xs ≠ [] ∧ xs.length < 1073741824 ∧ AllIn xs fun d => Q (.frz d) [.par stA, .nil] := psOf_iff (A := fun xs : List D => [.par stA, .frz (.lst xs)]) xs fun y e => by cases e; rfl
theorem c_rec {k : Nat} {t : Str} {Q : Pu.Slot → Pu.Env → Prop} {X : XP} : ps_law_record [.frz (.int k), .frz (.str t)] Q X ↔ k ≤ 9 ∧ t.length ≤ 100000 ∧ Q (.frz (.str (SX.S (recL k t.cps.toList)))) [.nil, .nil] := psOf_iff (A := fun a : Nat × Str => [.frz (.int a.1), .frz (.str a.2)]) (k, t) fun y e => by
  obtain ⟨a, b⟩ := y
  simp only [List.cons.injEq, Slot.frz.injEq, D.int.injEq, D.str.injEq, and_true] at e
  exact Prod.ext (by omega) e.2
theorem c_chk {x : Str} {Q : Pu.Slot → Pu.Env → Prop} {X : XP} : ps_check_number [.frz (.str x)] Q X ↔ x.length ≤ 1000000 ∧ Q (.frz (.int (chk x.cps.toList))) [.nil] := psOf_iff (A := fun x : Str => [.frz (.str x)]) x fun y e => by cases e; rfl
theorem c_num {x : Str} {Q : Pu.Slot → Pu.Env → Prop} {X : XP} : ps_is_number [.frz (.str x)] Q X ↔ x.length ≤ 1000000 ∧ Q (.frz (.bl (isNum x.cps.toList))) [.nil] := psOf_iff (A := fun x : Str => [.frz (.str x)]) x fun y e => by cases e; rfl
theorem c_read {x : Str} {at_ : Nat} {Q : Pu.Slot → Pu.Env → Prop} {X : XP} : ps_read_record [.frz (.str x), .frz (.int at_)] Q X ↔ x.length ≤ 100000 ∧ (∀ c ∈ x.cps.toList, c < 128) ∧ (∀ k t, Match (x.cps.toList.drop at_) k t → Q (.frz (.tup [.int k, .str (SX.S t), .int (at_ + (recL k t).length : Nat)])) [.nil, .nil]) ∧ ((∀ k t, ¬ Match (x.cps.toList.drop at_) k t) → Q (.frz .non) [.nil, .nil]) := psOf_iff (A := fun a : Str × Nat => [.frz (.str a.1), .frz (.int a.2)]) (x, at_) fun y e => by
  obtain ⟨a, b⟩ := y
  simp only [List.cons.injEq, Slot.frz.injEq, D.int.injEq, D.str.injEq, and_true] at e
  exact Prod.ext e.1 (by omega)
theorem c_reads {x : Str} {Q : Pu.Slot → Pu.Env → Prop} {X : XP} : ps_read_records [.frz (.str x)] Q X ↔ x.length ≤ 100000 ∧ (∀ c ∈ x.cps.toList, c < 128) ∧ ∀ rs m, Reads x.cps.toList rs m → Q (.frz (.tup [.lst (rs.map recD), .int (m : Nat)])) [.nil] := psOf_iff (A := fun x : Str => [.frz (.str x)]) x fun y e => by cases e; rfl
def I_state (ns : List Int) (i : Nat) (env : Pu.Env) : Prop := ∃ (s : Int) (x : Pu.Slot), env = [.frz (.scr ns), .frz (.int s), x] ∧ frS x = true
def J_state (ns : List Int) (i : Nat) (acc : List D) (env : Pu.Env) : Prop := ∃ (s : Int) (ms : List Int), acc = ms.map D.int ∧ ms.length ≤ i ∧ env = [.frz (.scr ns), .frz (.int s), .nil]
theorem pp_law_state : ∀ as Q X, ps_law_state as Q X → p_law_state (ends 1 Q) (as ++ nils (3 - as.length)) := by
  rintro as Q X ⟨ns, rfl, hl, h⟩
  have e2 := big
  simp only [p_law_state, sSeq, sSet, sIf, sRet, sRetN, sNext, sBreak, sCont, sDrop, sNever, sAsg, sPar, sAug, sApp, sExt, sSetI, sForI, sWhile, sMid, sTry, sRaise, qVar, qC, qOp, qUn, qB, qAnd, qOr, qNot, qAndV, qOrV, qNotV, qIf, qNil, qCons, qCB, qTup, qLst, qCut, qPart, qNo, qM1, qM0, qCall, qChain, qXf, eQ, eVar, eC, eOp, eUn, eIf, eNil, eCons, eCB, eTup, eLst, eO, eCut, eM1, eM0, ePop, eIxV, eAnd, eOr, eNot, eAndV, eOrV, eNotV, eChain, eCutE, eNo, ePart, oSu, iS, tB', tQ, tYes', oE, oLst, oMove, oIf, oCall, oSt, oComp, iL, iT, iR1, iR2, gN, gT, gsNil, gsCons, cNil, cVal, cRef, free_0, free_succ, ends, outs, nils, resolve, putBack, allRef, refs, wipeE, pIsN, pNotN, pEq, pNe, eqOk_ii, eqOk_ss, eqOk_bb, eqOk_ni, eqOk_in, frS_frz, frS_own, frS_nil, List.replicate, List.getElem?_cons_zero, List.getElem?_cons_succ, List.set_cons_zero, List.set_cons_succ, List.cons_append, List.nil_append, List.length_cons, List.length_nil, List.take_succ_cons, List.take_zero, List.map_cons, List.map_nil, true_and, and_true, D.int.injEq, D.str.injEq, D.lst.injEq, decide_eq_true_eq, ite_true, ite_false, if_true, if_false, reduceIte, Bool.false_eq_true, false_and, and_false, Bool.not_true, Bool.not_false, Option.some.injEq, exists_eq_left', exists_eq_left, exists_and_left, List.nodup_cons, List.nodup_nil, List.not_mem_nil, not_false_eq_true, List.mem_cons, or_false, false_or, forall_eq, forall_eq_or_imp, Slot.own.injEq, Slot.par.injEq, Slot.frz.injEq, reduceCtorEq, exists_eq', exists_eq, exists_false, decide_true, decide_false, or_self, false_implies, implies_true, forall_const, eq_self, rd_lkL1, rd_lkL2, rd_lkL3, rd_lkE1, rd_lkE2, rd_thE1, rd_thE2, rd_lkF1, rd_lkX1, rd_lkX2, rd_lkX3, rd_mvS1, rd_mvS2, rd_mvE1, rd_mvE2, rd_lsO1, rd_lsO2, rd_tpO1, rd_sol1, rd_sol2, rd_sol3, rd_sol4, rd_sol5, rd_sol6, rd_sol7, rd_flat1, rd_flat2, rd_flat3, rd_flat4, rd_flat5, rd_asD1, rd_asD2, rd_asQ1, rd_asQ2, rd_asB, rd_asI, rd_p1, rd_p2, rd_pI0, rd_pI2, rd_pU, rd_pAdd1, rd_pAdd2, rd_pAdd3, rd_pAdd4, rd_pMul1, rd_pMul2, rd_pMul3, rd_pLen1, rd_pLen2, rd_pLen3, rd_pInt1, rd_pAbs, rd_pList1, rd_pList2, rd_pList3, rd_pCut1, rd_pCut2, rd_pCut3, rd_non1, rd_non2, rd_non3, rd_non4, rd_non5, rd_non6, rd_isStr, rd_pIx1, rd_pIx2, rd_pIx3, rd_pJoin1, rd_upS1, rd_upS2, rd_out1, rd_out2, rd_out3, rd_out4, rd_asL1, rd_asL2, rd_putL1, rd_putL2, rd_stA, rd_isi1, rd_isi2, rd_isi3, rd_isi4, rd_isX, rd_draw, rd_take, rd_pLt, rd_pLe, rd_pGt, rd_pGe, rd_pTuple1, rd_pTuple2, rd_pStr1, rd_pStr2, rd_pInt, rd_pIntS, rd_pIntB, rd_pOrd, rd_pMax, rd_pSplit, rd_pPart, rd_stO, rd_pCutS, rd_solB, rd_pIn1, rd_pNotIn1, rd_pIn2, rd_pIn3, rd_pNotIn2, rd_pNotIn3, rd_pBls, rd_pJoin2, rd_at0, rd_at1, rd_at2, rd_at3, rd_atL, rd_ixL, rd_pRepr, rd_pGt2, rd_pLt2]
  refine ⟨I_state ns, ⟨7, .nil, rfl, rfl⟩, ?_⟩
  rintro i env ⟨s, x, rfl, hx⟩
  refine ⟨fun d hd => ?_, fun hi => ?_⟩
  · obtain ⟨hi, h2⟩ := List.getElem?_eq_some_iff.mp hd
    rw [List.getElem_map] at h2
    subst h2
    simp only [hx, sSeq, sSet, sIf, sRet, sRetN, sNext, sBreak, sCont, sDrop, sNever, sAsg, sPar, sAug, sApp, sExt, sSetI, sForI, sWhile, sMid, sTry, sRaise, qVar, qC, qOp, qUn, qB, qAnd, qOr, qNot, qAndV, qOrV, qNotV, qIf, qNil, qCons, qCB, qTup, qLst, qCut, qPart, qNo, qM1, qM0, qCall, qChain, qXf, eQ, eVar, eC, eOp, eUn, eIf, eNil, eCons, eCB, eTup, eLst, eO, eCut, eM1, eM0, ePop, eIxV, eAnd, eOr, eNot, eAndV, eOrV, eNotV, eChain, eCutE, eNo, ePart, oSu, iS, tB', tQ, tYes', oE, oLst, oMove, oIf, oCall, oSt, oComp, iL, iT, iR1, iR2, gN, gT, gsNil, gsCons, cNil, cVal, cRef, free_0, free_succ, ends, outs, nils, resolve, putBack, allRef, refs, wipeE, pIsN, pNotN, pEq, pNe, eqOk_ii, eqOk_ss, eqOk_bb, eqOk_ni, eqOk_in, frS_frz, frS_own, frS_nil, List.replicate, List.getElem?_cons_zero, List.getElem?_cons_succ, List.set_cons_zero, List.set_cons_succ, List.cons_append, List.nil_append, List.length_cons, List.length_nil, List.take_succ_cons, List.take_zero, List.map_cons, List.map_nil, true_and, and_true, D.int.injEq, D.str.injEq, D.lst.injEq, decide_eq_true_eq, ite_true, ite_false, if_true, if_false, reduceIte, Bool.false_eq_true, false_and, and_false, Bool.not_true, Bool.not_false, Option.some.injEq, exists_eq_left', exists_eq_left, exists_and_left, List.nodup_cons, List.nodup_nil, List.not_mem_nil, not_false_eq_true, List.mem_cons, or_false, false_or, forall_eq, forall_eq_or_imp, Slot.own.injEq, Slot.par.injEq, Slot.frz.injEq, reduceCtorEq, exists_eq', exists_eq, exists_false, decide_true, decide_false, or_self, false_implies, implies_true, forall_const, eq_self, rd_lkL1, rd_lkL2, rd_lkL3, rd_lkE1, rd_lkE2, rd_thE1, rd_thE2, rd_lkF1, rd_lkX1, rd_lkX2, rd_lkX3, rd_mvS1, rd_mvS2, rd_mvE1, rd_mvE2, rd_lsO1, rd_lsO2, rd_tpO1, rd_sol1, rd_sol2, rd_sol3, rd_sol4, rd_sol5, rd_sol6, rd_sol7, rd_flat1, rd_flat2, rd_flat3, rd_flat4, rd_flat5, rd_asD1, rd_asD2, rd_asQ1, rd_asQ2, rd_asB, rd_asI, rd_p1, rd_p2, rd_pI0, rd_pI2, rd_pU, rd_pAdd1, rd_pAdd2, rd_pAdd3, rd_pAdd4, rd_pMul1, rd_pMul2, rd_pMul3, rd_pLen1, rd_pLen2, rd_pLen3, rd_pInt1, rd_pAbs, rd_pList1, rd_pList2, rd_pList3, rd_pCut1, rd_pCut2, rd_pCut3, rd_non1, rd_non2, rd_non3, rd_non4, rd_non5, rd_non6, rd_isStr, rd_pIx1, rd_pIx2, rd_pIx3, rd_pJoin1, rd_upS1, rd_upS2, rd_out1, rd_out2, rd_out3, rd_out4, rd_asL1, rd_asL2, rd_putL1, rd_putL2, rd_stA, rd_isi1, rd_isi2, rd_isi3, rd_isi4, rd_isX, rd_draw, rd_take, rd_pLt, rd_pLe, rd_pGt, rd_pGe, rd_pTuple1, rd_pTuple2, rd_pStr1, rd_pStr2, rd_pInt, rd_pIntS, rd_pIntB, rd_pOrd, rd_pMax, rd_pSplit, rd_pPart, rd_stO, rd_pCutS, rd_solB, rd_pIn1, rd_pNotIn1, rd_pIn2, rd_pIn3, rd_pNotIn2, rd_pNotIn3, rd_pBls, rd_pJoin2, rd_at0, rd_at1, rd_at2, rd_at3, rd_atL, rd_ixL, rd_pRepr, rd_pGt2, rd_pLt2]
    exact ⟨.inr (by decide), by decide, _, _, rfl, rfl⟩
  · simp only [sSeq, sSet, sIf, sRet, sRetN, sNext, sBreak, sCont, sDrop, sNever, sAsg, sPar, sAug, sApp, sExt, sSetI, sForI, sWhile, sMid, sTry, sRaise, qVar, qC, qOp, qUn, qB, qAnd, qOr, qNot, qAndV, qOrV, qNotV, qIf, qNil, qCons, qCB, qTup, qLst, qCut, qPart, qNo, qM1, qM0, qCall, qChain, qXf, eQ, eVar, eC, eOp, eUn, eIf, eNil, eCons, eCB, eTup, eLst, eO, eCut, eM1, eM0, ePop, eIxV, eAnd, eOr, eNot, eAndV, eOrV, eNotV, eChain, eCutE, eNo, ePart, oSu, iS, tB', tQ, tYes', oE, oLst, oMove, oIf, oCall, oSt, oComp, iL, iT, iR1, iR2, gN, gT, gsNil, gsCons, cNil, cVal, cRef, free_0, free_succ, ends, outs, nils, resolve, putBack, allRef, refs, wipeE, pIsN, pNotN, pEq, pNe, eqOk_ii, eqOk_ss, eqOk_bb, eqOk_ni, eqOk_in, frS_frz, frS_own, frS_nil, List.replicate, List.getElem?_cons_zero, List.getElem?_cons_succ, List.set_cons_zero, List.set_cons_succ, List.cons_append, List.nil_append, List.length_cons, List.length_nil, List.take_succ_cons, List.take_zero, List.map_cons, List.map_nil, true_and, and_true, D.int.injEq, D.str.injEq, D.lst.injEq, decide_eq_true_eq, ite_true, ite_false, if_true, if_false, reduceIte, Bool.false_eq_true, false_and, and_false, Bool.not_true, Bool.not_false, Option.some.injEq, exists_eq_left', exists_eq_left, exists_and_left, List.nodup_cons, List.nodup_nil, List.not_mem_nil, not_false_eq_true, List.mem_cons, or_false, false_or, forall_eq, forall_eq_or_imp, Slot.own.injEq, Slot.par.injEq, Slot.frz.injEq, reduceCtorEq, exists_eq', exists_eq, exists_false, decide_true, decide_false, or_self, false_implies, implies_true, forall_const, eq_self, rd_lkL1, rd_lkL2, rd_lkL3, rd_lkE1, rd_lkE2, rd_thE1, rd_thE2, rd_lkF1, rd_lkX1, rd_lkX2, rd_lkX3, rd_mvS1, rd_mvS2, rd_mvE1, rd_mvE2, rd_lsO1, rd_lsO2, rd_tpO1, rd_sol1, rd_sol2, rd_sol3, rd_sol4, rd_sol5, rd_sol6, rd_sol7, rd_flat1, rd_flat2, rd_flat3, rd_flat4, rd_flat5, rd_asD1, rd_asD2, rd_asQ1, rd_asQ2, rd_asB, rd_asI, rd_p1, rd_p2, rd_pI0, rd_pI2, rd_pU, rd_pAdd1, rd_pAdd2, rd_pAdd3, rd_pAdd4, rd_pMul1, rd_pMul2, rd_pMul3, rd_pLen1, rd_pLen2, rd_pLen3, rd_pInt1, rd_pAbs, rd_pList1, rd_pList2, rd_pList3, rd_pCut1, rd_pCut2, rd_pCut3, rd_non1, rd_non2, rd_non3, rd_non4, rd_non5, rd_non6, rd_isStr, rd_pIx1, rd_pIx2, rd_pIx3, rd_pJoin1, rd_upS1, rd_upS2, rd_out1, rd_out2, rd_out3, rd_out4, rd_asL1, rd_asL2, rd_putL1, rd_putL2, rd_stA, rd_isi1, rd_isi2, rd_isi3, rd_isi4, rd_isX, rd_draw, rd_take, rd_pLt, rd_pLe, rd_pGt, rd_pGe, rd_pTuple1, rd_pTuple2, rd_pStr1, rd_pStr2, rd_pInt, rd_pIntS, rd_pIntB, rd_pOrd, rd_pMax, rd_pSplit, rd_pPart, rd_stO, rd_pCutS, rd_solB, rd_pIn1, rd_pNotIn1, rd_pIn2, rd_pIn3, rd_pNotIn2, rd_pNotIn3, rd_pBls, rd_pJoin2, rd_at0, rd_at1, rd_at2, rd_at3, rd_atL, rd_ixL, rd_pRepr, rd_pGt2, rd_pLt2]
    refine ⟨J_state ns, ⟨s, [], rfl, by simp, rfl⟩, ?_⟩
    rintro i acc env ⟨s, ms, rfl, hm, rfl⟩
    refine ⟨fun d hd => ?_, fun hi => ?_⟩
    · obtain ⟨hi, h2⟩ := List.getElem?_eq_some_iff.mp hd
      rw [List.getElem_map] at h2
      subst h2
      rw [List.length_map] at hi
      simp only [List.length_map, sSeq, sSet, sIf, sRet, sRetN, sNext, sBreak, sCont, sDrop, sNever, sAsg, sPar, sAug, sApp, sExt, sSetI, sForI, sWhile, sMid, sTry, sRaise, qVar, qC, qOp, qUn, qB, qAnd, qOr, qNot, qAndV, qOrV, qNotV, qIf, qNil, qCons, qCB, qTup, qLst, qCut, qPart, qNo, qM1, qM0, qCall, qChain, qXf, eQ, eVar, eC, eOp, eUn, eIf, eNil, eCons, eCB, eTup, eLst, eO, eCut, eM1, eM0, ePop, eIxV, eAnd, eOr, eNot, eAndV, eOrV, eNotV, eChain, eCutE, eNo, ePart, oSu, iS, tB', tQ, tYes', oE, oLst, oMove, oIf, oCall, oSt, oComp, iL, iT, iR1, iR2, gN, gT, gsNil, gsCons, cNil, cVal, cRef, free_0, free_succ, ends, outs, nils, resolve, putBack, allRef, refs, wipeE, pIsN, pNotN, pEq, pNe, eqOk_ii, eqOk_ss, eqOk_bb, eqOk_ni, eqOk_in, frS_frz, frS_own, frS_nil, List.replicate, List.getElem?_cons_zero, List.getElem?_cons_succ, List.set_cons_zero, List.set_cons_succ, List.cons_append, List.nil_append, List.length_cons, List.length_nil, List.take_succ_cons, List.take_zero, List.map_cons, List.map_nil, true_and, and_true, D.int.injEq, D.str.injEq, D.lst.injEq, decide_eq_true_eq, ite_true, ite_false, if_true, if_false, reduceIte, Bool.false_eq_true, false_and, and_false, Bool.not_true, Bool.not_false, Option.some.injEq, exists_eq_left', exists_eq_left, exists_and_left, List.nodup_cons, List.nodup_nil, List.not_mem_nil, not_false_eq_true, List.mem_cons, or_false, false_or, forall_eq, forall_eq_or_imp, Slot.own.injEq, Slot.par.injEq, Slot.frz.injEq, reduceCtorEq, exists_eq', exists_eq, exists_false, decide_true, decide_false, or_self, false_implies, implies_true, forall_const, eq_self, rd_lkL1, rd_lkL2, rd_lkL3, rd_lkE1, rd_lkE2, rd_thE1, rd_thE2, rd_lkF1, rd_lkX1, rd_lkX2, rd_lkX3, rd_mvS1, rd_mvS2, rd_mvE1, rd_mvE2, rd_lsO1, rd_lsO2, rd_tpO1, rd_sol1, rd_sol2, rd_sol3, rd_sol4, rd_sol5, rd_sol6, rd_sol7, rd_flat1, rd_flat2, rd_flat3, rd_flat4, rd_flat5, rd_asD1, rd_asD2, rd_asQ1, rd_asQ2, rd_asB, rd_asI, rd_p1, rd_p2, rd_pI0, rd_pI2, rd_pU, rd_pAdd1, rd_pAdd2, rd_pAdd3, rd_pAdd4, rd_pMul1, rd_pMul2, rd_pMul3, rd_pLen1, rd_pLen2, rd_pLen3, rd_pInt1, rd_pAbs, rd_pList1, rd_pList2, rd_pList3, rd_pCut1, rd_pCut2, rd_pCut3, rd_non1, rd_non2, rd_non3, rd_non4, rd_non5, rd_non6, rd_isStr, rd_pIx1, rd_pIx2, rd_pIx3, rd_pJoin1, rd_upS1, rd_upS2, rd_out1, rd_out2, rd_out3, rd_out4, rd_asL1, rd_asL2, rd_putL1, rd_putL2, rd_stA, rd_isi1, rd_isi2, rd_isi3, rd_isi4, rd_isX, rd_draw, rd_take, rd_pLt, rd_pLe, rd_pGt, rd_pGe, rd_pTuple1, rd_pTuple2, rd_pStr1, rd_pStr2, rd_pInt, rd_pIntS, rd_pIntB, rd_pOrd, rd_pMax, rd_pSplit, rd_pPart, rd_stO, rd_pCutS, rd_solB, rd_pIn1, rd_pNotIn1, rd_pIn2, rd_pIn3, rd_pNotIn2, rd_pNotIn3, rd_pBls, rd_pJoin2, rd_at0, rd_at1, rd_at2, rd_at3, rd_atL, rd_ixL, rd_pRepr, rd_pGt2, rd_pLt2]
      exact ⟨by omega, s, ms ++ [if ns[i] < 0 then -ns[i] else ns[i]], by simp, by simp; omega, rfl⟩
    · simp only [sSeq, sSet, sIf, sRet, sRetN, sNext, sBreak, sCont, sDrop, sNever, sAsg, sPar, sAug, sApp, sExt, sSetI, sForI, sWhile, sMid, sTry, sRaise, qVar, qC, qOp, qUn, qB, qAnd, qOr, qNot, qAndV, qOrV, qNotV, qIf, qNil, qCons, qCB, qTup, qLst, qCut, qPart, qNo, qM1, qM0, qCall, qChain, qXf, eQ, eVar, eC, eOp, eUn, eIf, eNil, eCons, eCB, eTup, eLst, eO, eCut, eM1, eM0, ePop, eIxV, eAnd, eOr, eNot, eAndV, eOrV, eNotV, eChain, eCutE, eNo, ePart, oSu, iS, tB', tQ, tYes', oE, oLst, oMove, oIf, oCall, oSt, oComp, iL, iT, iR1, iR2, gN, gT, gsNil, gsCons, cNil, cVal, cRef, free_0, free_succ, ends, outs, nils, resolve, putBack, allRef, refs, wipeE, pIsN, pNotN, pEq, pNe, eqOk_ii, eqOk_ss, eqOk_bb, eqOk_ni, eqOk_in, frS_frz, frS_own, frS_nil, List.replicate, List.getElem?_cons_zero, List.getElem?_cons_succ, List.set_cons_zero, List.set_cons_succ, List.cons_append, List.nil_append, List.length_cons, List.length_nil, List.take_succ_cons, List.take_zero, List.map_cons, List.map_nil, true_and, and_true, D.int.injEq, D.str.injEq, D.lst.injEq, decide_eq_true_eq, ite_true, ite_false, if_true, if_false, reduceIte, Bool.false_eq_true, false_and, and_false, Bool.not_true, Bool.not_false, Option.some.injEq, exists_eq_left', exists_eq_left, exists_and_left, List.nodup_cons, List.nodup_nil, List.not_mem_nil, not_false_eq_true, List.mem_cons, or_false, false_or, forall_eq, forall_eq_or_imp, Slot.own.injEq, Slot.par.injEq, Slot.frz.injEq, reduceCtorEq, exists_eq', exists_eq, exists_false, decide_true, decide_false, or_self, false_implies, implies_true, forall_const, eq_self, rd_lkL1, rd_lkL2, rd_lkL3, rd_lkE1, rd_lkE2, rd_thE1, rd_thE2, rd_lkF1, rd_lkX1, rd_lkX2, rd_lkX3, rd_mvS1, rd_mvS2, rd_mvE1, rd_mvE2, rd_lsO1, rd_lsO2, rd_tpO1, rd_sol1, rd_sol2, rd_sol3, rd_sol4, rd_sol5, rd_sol6, rd_sol7, rd_flat1, rd_flat2, rd_flat3, rd_flat4, rd_flat5, rd_asD1, rd_asD2, rd_asQ1, rd_asQ2, rd_asB, rd_asI, rd_p1, rd_p2, rd_pI0, rd_pI2, rd_pU, rd_pAdd1, rd_pAdd2, rd_pAdd3, rd_pAdd4, rd_pMul1, rd_pMul2, rd_pMul3, rd_pLen1, rd_pLen2, rd_pLen3, rd_pInt1, rd_pAbs, rd_pList1, rd_pList2, rd_pList3, rd_pCut1, rd_pCut2, rd_pCut3, rd_non1, rd_non2, rd_non3, rd_non4, rd_non5, rd_non6, rd_isStr, rd_pIx1, rd_pIx2, rd_pIx3, rd_pJoin1, rd_upS1, rd_upS2, rd_out1, rd_out2, rd_out3, rd_out4, rd_asL1, rd_asL2, rd_putL1, rd_putL2, rd_stA, rd_isi1, rd_isi2, rd_isi3, rd_isi4, rd_isX, rd_draw, rd_take, rd_pLt, rd_pLe, rd_pGt, rd_pGe, rd_pTuple1, rd_pTuple2, rd_pStr1, rd_pStr2, rd_pInt, rd_pIntS, rd_pIntB, rd_pOrd, rd_pMax, rd_pSplit, rd_pPart, rd_stO, rd_pCutS, rd_solB, rd_pIn1, rd_pNotIn1, rd_pIn2, rd_pIn3, rd_pNotIn2, rd_pNotIn3, rd_pBls, rd_pJoin2, rd_at0, rd_at1, rd_at2, rd_at3, rd_atL, rd_ixL, rd_pRepr, rd_pGt2, rd_pLt2]
      exact ⟨ms, rfl, h⟩
theorem pp_law_pick : ∀ as Q X, ps_law_pick as Q X → p_law_pick (ends 2 Q) (as ++ nils (2 - as.length)) := by
  rintro as Q X ⟨xs, rfl, hne, hl, h⟩
  simp only [p_law_pick, sSeq, sSet, sIf, sRet, sRetN, sNext, sBreak, sCont, sDrop, sNever, sAsg, sPar, sAug, sApp, sExt, sSetI, sForI, sWhile, sMid, sTry, sRaise, qVar, qC, qOp, qUn, qB, qAnd, qOr, qNot, qAndV, qOrV, qNotV, qIf, qNil, qCons, qCB, qTup, qLst, qCut, qPart, qNo, qM1, qM0, qCall, qChain, qXf, eQ, eVar, eC, eOp, eUn, eIf, eNil, eCons, eCB, eTup, eLst, eO, eCut, eM1, eM0, ePop, eIxV, eAnd, eOr, eNot, eAndV, eOrV, eNotV, eChain, eCutE, eNo, ePart, oSu, iS, tB', tQ, tYes', oE, oLst, oMove, oIf, oCall, oSt, oComp, iL, iT, iR1, iR2, gN, gT, gsNil, gsCons, cNil, cVal, cRef, free_0, free_succ, ends, outs, nils, resolve, putBack, allRef, refs, wipeE, pIsN, pNotN, pEq, pNe, eqOk_ii, eqOk_ss, eqOk_bb, eqOk_ni, eqOk_in, frS_frz, frS_own, frS_nil, List.replicate, List.getElem?_cons_zero, List.getElem?_cons_succ, List.set_cons_zero, List.set_cons_succ, List.cons_append, List.nil_append, List.length_cons, List.length_nil, List.take_succ_cons, List.take_zero, List.map_cons, List.map_nil, true_and, and_true, D.int.injEq, D.str.injEq, D.lst.injEq, decide_eq_true_eq, ite_true, ite_false, if_true, if_false, reduceIte, Bool.false_eq_true, false_and, and_false, Bool.not_true, Bool.not_false, Option.some.injEq, exists_eq_left', exists_eq_left, exists_and_left, List.nodup_cons, List.nodup_nil, List.not_mem_nil, not_false_eq_true, List.mem_cons, or_false, false_or, forall_eq, forall_eq_or_imp, Slot.own.injEq, Slot.par.injEq, Slot.frz.injEq, reduceCtorEq, exists_eq', exists_eq, exists_false, decide_true, decide_false, or_self, false_implies, implies_true, forall_const, eq_self, rd_lkL1, rd_lkL2, rd_lkL3, rd_lkE1, rd_lkE2, rd_thE1, rd_thE2, rd_lkF1, rd_lkX1, rd_lkX2, rd_lkX3, rd_mvS1, rd_mvS2, rd_mvE1, rd_mvE2, rd_lsO1, rd_lsO2, rd_tpO1, rd_sol1, rd_sol2, rd_sol3, rd_sol4, rd_sol5, rd_sol6, rd_sol7, rd_flat1, rd_flat2, rd_flat3, rd_flat4, rd_flat5, rd_asD1, rd_asD2, rd_asQ1, rd_asQ2, rd_asB, rd_asI, rd_p1, rd_p2, rd_pI0, rd_pI2, rd_pU, rd_pAdd1, rd_pAdd2, rd_pAdd3, rd_pAdd4, rd_pMul1, rd_pMul2, rd_pMul3, rd_pLen1, rd_pLen2, rd_pLen3, rd_pInt1, rd_pAbs, rd_pList1, rd_pList2, rd_pList3, rd_pCut1, rd_pCut2, rd_pCut3, rd_non1, rd_non2, rd_non3, rd_non4, rd_non5, rd_non6, rd_isStr, rd_pIx1, rd_pIx2, rd_pIx3, rd_pJoin1, rd_upS1, rd_upS2, rd_out1, rd_out2, rd_out3, rd_out4, rd_asL1, rd_asL2, rd_putL1, rd_putL2, rd_stA, rd_isi1, rd_isi2, rd_isi3, rd_isi4, rd_isX, rd_draw, rd_take, rd_pLt, rd_pLe, rd_pGt, rd_pGe, rd_pTuple1, rd_pTuple2, rd_pStr1, rd_pStr2, rd_pInt, rd_pIntS, rd_pIntB, rd_pOrd, rd_pMax, rd_pSplit, rd_pPart, rd_stO, rd_pCutS, rd_solB, rd_pIn1, rd_pNotIn1, rd_pIn2, rd_pIn3, rd_pNotIn2, rd_pNotIn3, rd_pBls, rd_pJoin2, rd_at0, rd_at1, rd_at2, rd_at3, rd_atL, rd_ixL, rd_pRepr, rd_pGt2, rd_pLt2]
  have hp : 0 < xs.length := List.length_pos_iff.mpr hne
  refine ⟨by omega, fun v h0 h1 => ?_⟩
  have hv : v.toNat < xs.length := by omega
  refine ⟨xs[v.toNat], ?_, h _ (List.getElem_mem hv)⟩
  have e : ((v.toNat : Nat) : Int) = v := by omega
  have q := Pu.atI_nat (List.getElem?_eq_getElem hv)
  rw [e] at q
  exact q
/-! ### the check number -/
theorem chk_next (l : List Nat) (c : Nat) : chk (l ++ [c]) = (chk l * 257 + c + 1) % 4294967291 := by
  unfold chk
  rw [List.foldl_append]
  rfl
theorem chk_lt (l : List Nat) : chk l < 4294967291 := by
  unfold chk
  rw [← List.reverse_reverse l]
  cases l.reverse with
  | nil => decide
  | cons c r =>
    rw [List.reverse_cons, List.foldl_append]
    exact Nat.mod_lt _ (by decide)
def I_chk (t : Str) (i : Nat) (env : Pu.Env) : Prop := ∃ x, env = [.frz (.str t), .frz (.int (chk (t.cps.toList.take i) : Nat)), x] ∧ frS x = true
theorem pp_check_number : ∀ as Q X, ps_check_number as Q X → p_check_number (ends 1 Q) (as ++ nils (3 - as.length)) := by
  rintro as Q X ⟨t, rfl, hl, h⟩
  have e2 := big
  simp only [p_check_number, sSeq, sSet, sIf, sRet, sRetN, sNext, sBreak, sCont, sDrop, sNever, sAsg, sPar, sAug, sApp, sExt, sSetI, sForI, sWhile, sMid, sTry, sRaise, qVar, qC, qOp, qUn, qB, qAnd, qOr, qNot, qAndV, qOrV, qNotV, qIf, qNil, qCons, qCB, qTup, qLst, qCut, qPart, qNo, qM1, qM0, qCall, qChain, qXf, eQ, eVar, eC, eOp, eUn, eIf, eNil, eCons, eCB, eTup, eLst, eO, eCut, eM1, eM0, ePop, eIxV, eAnd, eOr, eNot, eAndV, eOrV, eNotV, eChain, eCutE, eNo, ePart, oSu, iS, tB', tQ, tYes', oE, oLst, oMove, oIf, oCall, oSt, oComp, iL, iT, iR1, iR2, gN, gT, gsNil, gsCons, cNil, cVal, cRef, free_0, free_succ, ends, outs, nils, resolve, putBack, allRef, refs, wipeE, pIsN, pNotN, pEq, pNe, eqOk_ii, eqOk_ss, eqOk_bb, eqOk_ni, eqOk_in, frS_frz, frS_own, frS_nil, List.replicate, List.getElem?_cons_zero, List.getElem?_cons_succ, List.set_cons_zero, List.set_cons_succ, List.cons_append, List.nil_append, List.length_cons, List.length_nil, List.take_succ_cons, List.take_zero, List.map_cons, List.map_nil, true_and, and_true, D.int.injEq, D.str.injEq, D.lst.injEq, decide_eq_true_eq, ite_true, ite_false, if_true, if_false, reduceIte, Bool.false_eq_true, false_and, and_false, Bool.not_true, Bool.not_false, Option.some.injEq, exists_eq_left', exists_eq_left, exists_and_left, List.nodup_cons, List.nodup_nil, List.not_mem_nil, not_false_eq_true, List.mem_cons, or_false, false_or, forall_eq, forall_eq_or_imp, Slot.own.injEq, Slot.par.injEq, Slot.frz.injEq, reduceCtorEq, exists_eq', exists_eq, exists_false, decide_true, decide_false, or_self, false_implies, implies_true, forall_const, eq_self, rd_lkL1, rd_lkL2, rd_lkL3, rd_lkE1, rd_lkE2, rd_thE1, rd_thE2, rd_lkF1, rd_lkX1, rd_lkX2, rd_lkX3, rd_mvS1, rd_mvS2, rd_mvE1, rd_mvE2, rd_lsO1, rd_lsO2, rd_tpO1, rd_sol1, rd_sol2, rd_sol3, rd_sol4, rd_sol5, rd_sol6, rd_sol7, rd_flat1, rd_flat2, rd_flat3, rd_flat4, rd_flat5, rd_asD1, rd_asD2, rd_asQ1, rd_asQ2, rd_asB, rd_asI, rd_p1, rd_p2, rd_pI0, rd_pI2, rd_pU, rd_pAdd1, rd_pAdd2, rd_pAdd3, rd_pAdd4, rd_pMul1, rd_pMul2, rd_pMul3, rd_pLen1, rd_pLen2, rd_pLen3, rd_pInt1, rd_pAbs, rd_pList1, rd_pList2, rd_pList3, rd_pCut1, rd_pCut2, rd_pCut3, rd_non1, rd_non2, rd_non3, rd_non4, rd_non5, rd_non6, rd_isStr, rd_pIx1, rd_pIx2, rd_pIx3, rd_pJoin1, rd_upS1, rd_upS2, rd_out1, rd_out2, rd_out3, rd_out4, rd_asL1, rd_asL2, rd_putL1, rd_putL2, rd_stA, rd_isi1, rd_isi2, rd_isi3, rd_isi4, rd_isX, rd_draw, rd_take, rd_pLt, rd_pLe, rd_pGt, rd_pGe, rd_pTuple1, rd_pTuple2, rd_pStr1, rd_pStr2, rd_pInt, rd_pIntS, rd_pIntB, rd_pOrd, rd_pMax, rd_pSplit, rd_pPart, rd_stO, rd_pCutS, rd_solB, rd_pIn1, rd_pNotIn1, rd_pIn2, rd_pIn3, rd_pNotIn2, rd_pNotIn3, rd_pBls, rd_pJoin2, rd_at0, rd_at1, rd_at2, rd_at3, rd_atL, rd_ixL, rd_pRepr, rd_pGt2, rd_pLt2]
  refine ⟨I_chk t, ⟨_, rfl, rfl⟩, ?_⟩
  rintro i env ⟨x, rfl, hx⟩
  refine ⟨fun d hd => ?_, fun hi => ?_⟩
  · obtain ⟨c, hc, rfl, hi⟩ := sgn_get hd
    have hb := chk_lt (t.cps.toList.take i)
    simp only [hx, rd_pOrd, sSeq, sSet, sIf, sRet, sRetN, sNext, sBreak, sCont, sDrop, sNever, sAsg, sPar, sAug, sApp, sExt, sSetI, sForI, sWhile, sMid, sTry, sRaise, qVar, qC, qOp, qUn, qB, qAnd, qOr, qNot, qAndV, qOrV, qNotV, qIf, qNil, qCons, qCB, qTup, qLst, qCut, qPart, qNo, qM1, qM0, qCall, qChain, qXf, eQ, eVar, eC, eOp, eUn, eIf, eNil, eCons, eCB, eTup, eLst, eO, eCut, eM1, eM0, ePop, eIxV, eAnd, eOr, eNot, eAndV, eOrV, eNotV, eChain, eCutE, eNo, ePart, oSu, iS, tB', tQ, tYes', oE, oLst, oMove, oIf, oCall, oSt, oComp, iL, iT, iR1, iR2, gN, gT, gsNil, gsCons, cNil, cVal, cRef, free_0, free_succ, ends, outs, nils, resolve, putBack, allRef, refs, wipeE, pIsN, pNotN, pEq, pNe, eqOk_ii, eqOk_ss, eqOk_bb, eqOk_ni, eqOk_in, frS_frz, frS_own, frS_nil, List.replicate, List.getElem?_cons_zero, List.getElem?_cons_succ, List.set_cons_zero, List.set_cons_succ, List.cons_append, List.nil_append, List.length_cons, List.length_nil, List.take_succ_cons, List.take_zero, List.map_cons, List.map_nil, true_and, and_true, D.int.injEq, D.str.injEq, D.lst.injEq, decide_eq_true_eq, ite_true, ite_false, if_true, if_false, reduceIte, Bool.false_eq_true, false_and, and_false, Bool.not_true, Bool.not_false, Option.some.injEq, exists_eq_left', exists_eq_left, exists_and_left, List.nodup_cons, List.nodup_nil, List.not_mem_nil, not_false_eq_true, List.mem_cons, or_false, false_or, forall_eq, forall_eq_or_imp, Slot.own.injEq, Slot.par.injEq, Slot.frz.injEq, reduceCtorEq, exists_eq', exists_eq, exists_false, decide_true, decide_false, or_self, false_implies, implies_true, forall_const, eq_self, rd_lkL1, rd_lkL2, rd_lkL3, rd_lkE1, rd_lkE2, rd_thE1, rd_thE2, rd_lkF1, rd_lkX1, rd_lkX2, rd_lkX3, rd_mvS1, rd_mvS2, rd_mvE1, rd_mvE2, rd_lsO1, rd_lsO2, rd_tpO1, rd_sol1, rd_sol2, rd_sol3, rd_sol4, rd_sol5, rd_sol6, rd_sol7, rd_flat1, rd_flat2, rd_flat3, rd_flat4, rd_flat5, rd_asD1, rd_asD2, rd_asQ1, rd_asQ2, rd_asB, rd_asI, rd_p1, rd_p2, rd_pI0, rd_pI2, rd_pU, rd_pAdd1, rd_pAdd2, rd_pAdd3, rd_pAdd4, rd_pMul1, rd_pMul2, rd_pMul3, rd_pLen1, rd_pLen2, rd_pLen3, rd_pInt1, rd_pAbs, rd_pList1, rd_pList2, rd_pList3, rd_pCut1, rd_pCut2, rd_pCut3, rd_non1, rd_non2, rd_non3, rd_non4, rd_non5, rd_non6, rd_isStr, rd_pIx1, rd_pIx2, rd_pIx3, rd_pJoin1, rd_upS1, rd_upS2, rd_out1, rd_out2, rd_out3, rd_out4, rd_asL1, rd_asL2, rd_putL1, rd_putL2, rd_stA, rd_isi1, rd_isi2, rd_isi3, rd_isi4, rd_isX, rd_draw, rd_take, rd_pLt, rd_pLe, rd_pGt, rd_pGe, rd_pTuple1, rd_pTuple2, rd_pStr1, rd_pStr2, rd_pInt, rd_pIntS, rd_pIntB, rd_pOrd, rd_pMax, rd_pSplit, rd_pPart, rd_stO, rd_pCutS, rd_solB, rd_pIn1, rd_pNotIn1, rd_pIn2, rd_pIn3, rd_pNotIn2, rd_pNotIn3, rd_pBls, rd_pJoin2, rd_at0, rd_at1, rd_at2, rd_at3, rd_atL, rd_ixL, rd_pRepr, rd_pGt2, rd_pLt2]
    refine ⟨.inr (by decide), by decide, Pu.Slot.frz (D.str ⟨#[c]⟩), ?_, rfl⟩
    rw [take_next hc, chk_next]
    simp only [List.cons.injEq, Slot.frz.injEq, D.int.injEq, and_true, true_and]
    omega
  · simp only [sSeq, sSet, sIf, sRet, sRetN, sNext, sBreak, sCont, sDrop, sNever, sAsg, sPar, sAug, sApp, sExt, sSetI, sForI, sWhile, sMid, sTry, sRaise, qVar, qC, qOp, qUn, qB, qAnd, qOr, qNot, qAndV, qOrV, qNotV, qIf, qNil, qCons, qCB, qTup, qLst, qCut, qPart, qNo, qM1, qM0, qCall, qChain, qXf, eQ, eVar, eC, eOp, eUn, eIf, eNil, eCons, eCB, eTup, eLst, eO, eCut, eM1, eM0, ePop, eIxV, eAnd, eOr, eNot, eAndV, eOrV, eNotV, eChain, eCutE, eNo, ePart, oSu, iS, tB', tQ, tYes', oE, oLst, oMove, oIf, oCall, oSt, oComp, iL, iT, iR1, iR2, gN, gT, gsNil, gsCons, cNil, cVal, cRef, free_0, free_succ, ends, outs, nils, resolve, putBack, allRef, refs, wipeE, pIsN, pNotN, pEq, pNe, eqOk_ii, eqOk_ss, eqOk_bb, eqOk_ni, eqOk_in, frS_frz, frS_own, frS_nil, List.replicate, List.getElem?_cons_zero, List.getElem?_cons_succ, List.set_cons_zero, List.set_cons_succ, List.cons_append, List.nil_append, List.length_cons, List.length_nil, List.take_succ_cons, List.take_zero, List.map_cons, List.map_nil, true_and, and_true, D.int.injEq, D.str.injEq, D.lst.injEq, decide_eq_true_eq, ite_true, ite_false, if_true, if_false, reduceIte, Bool.false_eq_true, false_and, and_false, Bool.not_true, Bool.not_false, Option.some.injEq, exists_eq_left', exists_eq_left, exists_and_left, List.nodup_cons, List.nodup_nil, List.not_mem_nil, not_false_eq_true, List.mem_cons, or_false, false_or, forall_eq, forall_eq_or_imp, Slot.own.injEq, Slot.par.injEq, Slot.frz.injEq, reduceCtorEq, exists_eq', exists_eq, exists_false, decide_true, decide_false, or_self, false_implies, implies_true, forall_const, eq_self, rd_lkL1, rd_lkL2, rd_lkL3, rd_lkE1, rd_lkE2, rd_thE1, rd_thE2, rd_lkF1, rd_lkX1, rd_lkX2, rd_lkX3, rd_mvS1, rd_mvS2, rd_mvE1, rd_mvE2, rd_lsO1, rd_lsO2, rd_tpO1, rd_sol1, rd_sol2, rd_sol3, rd_sol4, rd_sol5, rd_sol6, rd_sol7, rd_flat1, rd_flat2, rd_flat3, rd_flat4, rd_flat5, rd_asD1, rd_asD2, rd_asQ1, rd_asQ2, rd_asB, rd_asI, rd_p1, rd_p2, rd_pI0, rd_pI2, rd_pU, rd_pAdd1, rd_pAdd2, rd_pAdd3, rd_pAdd4, rd_pMul1, rd_pMul2, rd_pMul3, rd_pLen1, rd_pLen2, rd_pLen3, rd_pInt1, rd_pAbs, rd_pList1, rd_pList2, rd_pList3, rd_pCut1, rd_pCut2, rd_pCut3, rd_non1, rd_non2, rd_non3, rd_non4, rd_non5, rd_non6, rd_isStr, rd_pIx1, rd_pIx2, rd_pIx3, rd_pJoin1, rd_upS1, rd_upS2, rd_out1, rd_out2, rd_out3, rd_out4, rd_asL1, rd_asL2, rd_putL1, rd_putL2, rd_stA, rd_isi1, rd_isi2, rd_isi3, rd_isi4, rd_isX, rd_draw, rd_take, rd_pLt, rd_pLe, rd_pGt, rd_pGe, rd_pTuple1, rd_pTuple2, rd_pStr1, rd_pStr2, rd_pInt, rd_pIntS, rd_pIntB, rd_pOrd, rd_pMax, rd_pSplit, rd_pPart, rd_stO, rd_pCutS, rd_solB, rd_pIn1, rd_pNotIn1, rd_pIn2, rd_pIn3, rd_pNotIn2, rd_pNotIn3, rd_pBls, rd_pJoin2, rd_at0, rd_at1, rd_at2, rd_at3, rd_atL, rd_ixL, rd_pRepr, rd_pGt2, rd_pLt2]
    rw [sgn_len, len_cps] at hi
    rw [List.take_of_length_le (by omega)]
    exact h
theorem lits : Str.ofString " " = SX.S [32] ∧ Str.ofString ":" = SX.S [58] ∧ Str.ofString ";" = SX.S [59] ∧ Str.ofString "" = SX.S [] ∧ Str.ofString "0" = SX.S [48] := by decide +kernel
theorem num6 {n : Nat} (h : n ≤ 100000) : (TL.numL n).length ≤ 6 := TL.numL_len (by decide) (by omega)
theorem num1 {n : Nat} (h : n ≤ 9) : (TL.numL n).length = 1 := by rw [TL.numL_lt (by omega)]; rfl
theorem num10 {n : Nat} (h : n < 4294967291) : (TL.numL n).length ≤ 10 := TL.numL_len (by decide) (by omega)
theorem bodyF (k : Nat) (t : List Nat) : TL.numL k ++ [32] ++ TL.numL t.length ++ [58] ++ t = bodyL k t := rfl
theorem recF (k : Nat) (t : List Nat) : bodyL k t ++ [58] ++ TL.numL (chk (bodyL k t)) ++ [59] = recL k t := rfl
theorem body_len {k : Nat} {t : List Nat} : (bodyL k t).length = (TL.numL k).length + (TL.numL t.length).length + 2 + t.length := by
  unfold bodyL
  simp only [List.length_append, List.length_cons, List.length_nil]
  omega
def I_rec (k : Nat) (t : List Nat) (i : Nat) (env : Pu.Env) : Prop := ∃ x, env = [.frz (.int k), .frz (.str (SX.S t)), .frz (.str (SX.S (bodyL k t))), .frz (.int (chk ((bodyL k t).take i) : Nat)), x] ∧ frS x = true
theorem pp_law_record : ∀ as Q X, ps_law_record as Q X → p_law_record (ends 2 Q) (as ++ nils (5 - as.length)) := by
  rintro as Q X ⟨⟨k, t⟩, rfl, hk, hl, h⟩
  obtain ⟨t, rfl⟩ : ∃ T, t = SX.S T := ⟨_, S_of t⟩
  simp only [S_cps, SX.S_len] at hk hl h
  have e2 := big
  obtain ⟨l1, l2, l3, l4, l5⟩ := lits
  have n1 := num1 hk
  have n2 := num6 hl
  have n3 := num10 (chk_lt (bodyL k t))
  have hb := body_len (k := k) (t := t)
  simp only [p_law_record, sSeq, sSet, sIf, sRet, sRetN, sNext, sBreak, sCont, sDrop, sNever, sAsg, sPar, sAug, sApp, sExt, sSetI, sForI, sWhile, sMid, sTry, sRaise, qVar, qC, qOp, qUn, qB, qAnd, qOr, qNot, qAndV, qOrV, qNotV, qIf, qNil, qCons, qCB, qTup, qLst, qCut, qPart, qNo, qM1, qM0, qCall, qChain, qXf, eQ, eVar, eC, eOp, eUn, eIf, eNil, eCons, eCB, eTup, eLst, eO, eCut, eM1, eM0, ePop, eIxV, eAnd, eOr, eNot, eAndV, eOrV, eNotV, eChain, eCutE, eNo, ePart, oSu, iS, tB', tQ, tYes', oE, oLst, oMove, oIf, oCall, oSt, oComp, iL, iT, iR1, iR2, gN, gT, gsNil, gsCons, cNil, cVal, cRef, free_0, free_succ, ends, outs, nils, resolve, putBack, allRef, refs, wipeE, pIsN, pNotN, pEq, pNe, eqOk_ii, eqOk_ss, eqOk_bb, eqOk_ni, eqOk_in, frS_frz, frS_own, frS_nil, List.replicate, List.getElem?_cons_zero, List.getElem?_cons_succ, List.set_cons_zero, List.set_cons_succ, List.cons_append, List.nil_append, List.length_cons, List.length_nil, List.take_succ_cons, List.take_zero, List.map_cons, List.map_nil, true_and, and_true, D.int.injEq, D.str.injEq, D.lst.injEq, decide_eq_true_eq, ite_true, ite_false, if_true, if_false, reduceIte, Bool.false_eq_true, false_and, and_false, Bool.not_true, Bool.not_false, Option.some.injEq, exists_eq_left', exists_eq_left, exists_and_left, List.nodup_cons, List.nodup_nil, List.not_mem_nil, not_false_eq_true, List.mem_cons, or_false, false_or, forall_eq, forall_eq_or_imp, Slot.own.injEq, Slot.par.injEq, Slot.frz.injEq, reduceCtorEq, exists_eq', exists_eq, exists_false, decide_true, decide_false, or_self, false_implies, implies_true, forall_const, eq_self, rd_lkL1, rd_lkL2, rd_lkL3, rd_lkE1, rd_lkE2, rd_thE1, rd_thE2, rd_lkF1, rd_lkX1, rd_lkX2, rd_lkX3, rd_mvS1, rd_mvS2, rd_mvE1, rd_mvE2, rd_lsO1, rd_lsO2, rd_tpO1, rd_sol1, rd_sol2, rd_sol3, rd_sol4, rd_sol5, rd_sol6, rd_sol7, rd_flat1, rd_flat2, rd_flat3, rd_flat4, rd_flat5, rd_asD1, rd_asD2, rd_asQ1, rd_asQ2, rd_asB, rd_asI, rd_p1, rd_p2, rd_pI0, rd_pI2, rd_pU, rd_pAdd1, rd_pAdd2, rd_pAdd3, rd_pAdd4, rd_pMul1, rd_pMul2, rd_pMul3, rd_pLen1, rd_pLen2, rd_pLen3, rd_pInt1, rd_pAbs, rd_pList1, rd_pList2, rd_pList3, rd_pCut1, rd_pCut2, rd_pCut3, rd_non1, rd_non2, rd_non3, rd_non4, rd_non5, rd_non6, rd_isStr, rd_pIx1, rd_pIx2, rd_pIx3, rd_pJoin1, rd_upS1, rd_upS2, rd_out1, rd_out2, rd_out3, rd_out4, rd_asL1, rd_asL2, rd_putL1, rd_putL2, rd_stA, rd_isi1, rd_isi2, rd_isi3, rd_isi4, rd_isX, rd_draw, rd_take, rd_pLt, rd_pLe, rd_pGt, rd_pGe, rd_pTuple1, rd_pTuple2, rd_pStr1, rd_pStr2, rd_pInt, rd_pIntS, rd_pIntB, rd_pOrd, rd_pMax, rd_pSplit, rd_pPart, rd_stO, rd_pCutS, rd_solB, rd_pIn1, rd_pNotIn1, rd_pIn2, rd_pIn3, rd_pNotIn2, rd_pNotIn3, rd_pBls, rd_pJoin2, rd_at0, rd_at1, rd_at2, rd_at3, rd_atL, rd_ixL, rd_pRepr, rd_pGt2, rd_pLt2]
  simp only [l1, l2, l3, str_num, SX.S_len, S_app, bodyF, List.length_append, List.length_cons, List.length_nil]
  refine ⟨nat_log (by omega), by omega, by omega, nat_log (by omega), by omega, by omega, by omega, I_rec k t, ⟨.nil, rfl, rfl⟩, ?_⟩
  rintro i env ⟨x, rfl, hx⟩
  refine ⟨fun d hd => ?_, fun hi => ?_⟩
  · obtain ⟨c, hc, rfl, hi⟩ := sgn_get hd
    rw [S_cps] at hc hi
    have hb := chk_lt ((bodyL k t).take i)
    simp only [hx, sSeq, sSet, sIf, sRet, sRetN, sNext, sBreak, sCont, sDrop, sNever, sAsg, sPar, sAug, sApp, sExt, sSetI, sForI, sWhile, sMid, sTry, sRaise, qVar, qC, qOp, qUn, qB, qAnd, qOr, qNot, qAndV, qOrV, qNotV, qIf, qNil, qCons, qCB, qTup, qLst, qCut, qPart, qNo, qM1, qM0, qCall, qChain, qXf, eQ, eVar, eC, eOp, eUn, eIf, eNil, eCons, eCB, eTup, eLst, eO, eCut, eM1, eM0, ePop, eIxV, eAnd, eOr, eNot, eAndV, eOrV, eNotV, eChain, eCutE, eNo, ePart, oSu, iS, tB', tQ, tYes', oE, oLst, oMove, oIf, oCall, oSt, oComp, iL, iT, iR1, iR2, gN, gT, gsNil, gsCons, cNil, cVal, cRef, free_0, free_succ, ends, outs, nils, resolve, putBack, allRef, refs, wipeE, pIsN, pNotN, pEq, pNe, eqOk_ii, eqOk_ss, eqOk_bb, eqOk_ni, eqOk_in, frS_frz, frS_own, frS_nil, List.replicate, List.getElem?_cons_zero, List.getElem?_cons_succ, List.set_cons_zero, List.set_cons_succ, List.cons_append, List.nil_append, List.length_cons, List.length_nil, List.take_succ_cons, List.take_zero, List.map_cons, List.map_nil, true_and, and_true, D.int.injEq, D.str.injEq, D.lst.injEq, decide_eq_true_eq, ite_true, ite_false, if_true, if_false, reduceIte, Bool.false_eq_true, false_and, and_false, Bool.not_true, Bool.not_false, Option.some.injEq, exists_eq_left', exists_eq_left, exists_and_left, List.nodup_cons, List.nodup_nil, List.not_mem_nil, not_false_eq_true, List.mem_cons, or_false, false_or, forall_eq, forall_eq_or_imp, Slot.own.injEq, Slot.par.injEq, Slot.frz.injEq, reduceCtorEq, exists_eq', exists_eq, exists_false, decide_true, decide_false, or_self, false_implies, implies_true, forall_const, eq_self, rd_lkL1, rd_lkL2, rd_lkL3, rd_lkE1, rd_lkE2, rd_thE1, rd_thE2, rd_lkF1, rd_lkX1, rd_lkX2, rd_lkX3, rd_mvS1, rd_mvS2, rd_mvE1, rd_mvE2, rd_lsO1, rd_lsO2, rd_tpO1, rd_sol1, rd_sol2, rd_sol3, rd_sol4, rd_sol5, rd_sol6, rd_sol7, rd_flat1, rd_flat2, rd_flat3, rd_flat4, rd_flat5, rd_asD1, rd_asD2, rd_asQ1, rd_asQ2, rd_asB, rd_asI, rd_p1, rd_p2, rd_pI0, rd_pI2, rd_pU, rd_pAdd1, rd_pAdd2, rd_pAdd3, rd_pAdd4, rd_pMul1, rd_pMul2, rd_pMul3, rd_pLen1, rd_pLen2, rd_pLen3, rd_pInt1, rd_pAbs, rd_pList1, rd_pList2, rd_pList3, rd_pCut1, rd_pCut2, rd_pCut3, rd_non1, rd_non2, rd_non3, rd_non4, rd_non5, rd_non6, rd_isStr, rd_pIx1, rd_pIx2, rd_pIx3, rd_pJoin1, rd_upS1, rd_upS2, rd_out1, rd_out2, rd_out3, rd_out4, rd_asL1, rd_asL2, rd_putL1, rd_putL2, rd_stA, rd_isi1, rd_isi2, rd_isi3, rd_isi4, rd_isX, rd_draw, rd_take, rd_pLt, rd_pLe, rd_pGt, rd_pGe, rd_pTuple1, rd_pTuple2, rd_pStr1, rd_pStr2, rd_pInt, rd_pIntS, rd_pIntB, rd_pOrd, rd_pMax, rd_pSplit, rd_pPart, rd_stO, rd_pCutS, rd_solB, rd_pIn1, rd_pNotIn1, rd_pIn2, rd_pIn3, rd_pNotIn2, rd_pNotIn3, rd_pBls, rd_pJoin2, rd_at0, rd_at1, rd_at2, rd_at3, rd_atL, rd_ixL, rd_pRepr, rd_pGt2, rd_pLt2]
    refine ⟨.inr (by decide), by decide, Pu.Slot.frz (D.str ⟨#[c]⟩), ?_, rfl⟩
    rw [take_next hc, chk_next]
    simp only [List.cons.injEq, Slot.frz.injEq, D.int.injEq, and_true, true_and]
    omega
  · rw [sgn_len, SX.S_len] at hi
    rw [List.take_of_length_le (by omega)]
    have hlt := chk_lt (bodyL k t)
    simp only [sSeq, sSet, sIf, sRet, sRetN, sNext, sBreak, sCont, sDrop, sNever, sAsg, sPar, sAug, sApp, sExt, sSetI, sForI, sWhile, sMid, sTry, sRaise, qVar, qC, qOp, qUn, qB, qAnd, qOr, qNot, qAndV, qOrV, qNotV, qIf, qNil, qCons, qCB, qTup, qLst, qCut, qPart, qNo, qM1, qM0, qCall, qChain, qXf, eQ, eVar, eC, eOp, eUn, eIf, eNil, eCons, eCB, eTup, eLst, eO, eCut, eM1, eM0, ePop, eIxV, eAnd, eOr, eNot, eAndV, eOrV, eNotV, eChain, eCutE, eNo, ePart, oSu, iS, tB', tQ, tYes', oE, oLst, oMove, oIf, oCall, oSt, oComp, iL, iT, iR1, iR2, gN, gT, gsNil, gsCons, cNil, cVal, cRef, free_0, free_succ, ends, outs, nils, resolve, putBack, allRef, refs, wipeE, pIsN, pNotN, pEq, pNe, eqOk_ii, eqOk_ss, eqOk_bb, eqOk_ni, eqOk_in, frS_frz, frS_own, frS_nil, List.replicate, List.getElem?_cons_zero, List.getElem?_cons_succ, List.set_cons_zero, List.set_cons_succ, List.cons_append, List.nil_append, List.length_cons, List.length_nil, List.take_succ_cons, List.take_zero, List.map_cons, List.map_nil, true_and, and_true, D.int.injEq, D.str.injEq, D.lst.injEq, decide_eq_true_eq, ite_true, ite_false, if_true, if_false, reduceIte, Bool.false_eq_true, false_and, and_false, Bool.not_true, Bool.not_false, Option.some.injEq, exists_eq_left', exists_eq_left, exists_and_left, List.nodup_cons, List.nodup_nil, List.not_mem_nil, not_false_eq_true, List.mem_cons, or_false, false_or, forall_eq, forall_eq_or_imp, Slot.own.injEq, Slot.par.injEq, Slot.frz.injEq, reduceCtorEq, exists_eq', exists_eq, exists_false, decide_true, decide_false, or_self, false_implies, implies_true, forall_const, eq_self, rd_lkL1, rd_lkL2, rd_lkL3, rd_lkE1, rd_lkE2, rd_thE1, rd_thE2, rd_lkF1, rd_lkX1, rd_lkX2, rd_lkX3, rd_mvS1, rd_mvS2, rd_mvE1, rd_mvE2, rd_lsO1, rd_lsO2, rd_tpO1, rd_sol1, rd_sol2, rd_sol3, rd_sol4, rd_sol5, rd_sol6, rd_sol7, rd_flat1, rd_flat2, rd_flat3, rd_flat4, rd_flat5, rd_asD1, rd_asD2, rd_asQ1, rd_asQ2, rd_asB, rd_asI, rd_p1, rd_p2, rd_pI0, rd_pI2, rd_pU, rd_pAdd1, rd_pAdd2, rd_pAdd3, rd_pAdd4, rd_pMul1, rd_pMul2, rd_pMul3, rd_pLen1, rd_pLen2, rd_pLen3, rd_pInt1, rd_pAbs, rd_pList1, rd_pList2, rd_pList3, rd_pCut1, rd_pCut2, rd_pCut3, rd_non1, rd_non2, rd_non3, rd_non4, rd_non5, rd_non6, rd_isStr, rd_pIx1, rd_pIx2, rd_pIx3, rd_pJoin1, rd_upS1, rd_upS2, rd_out1, rd_out2, rd_out3, rd_out4, rd_asL1, rd_asL2, rd_putL1, rd_putL2, rd_stA, rd_isi1, rd_isi2, rd_isi3, rd_isi4, rd_isX, rd_draw, rd_take, rd_pLt, rd_pLe, rd_pGt, rd_pGe, rd_pTuple1, rd_pTuple2, rd_pStr1, rd_pStr2, rd_pInt, rd_pIntS, rd_pIntB, rd_pOrd, rd_pMax, rd_pSplit, rd_pPart, rd_stO, rd_pCutS, rd_solB, rd_pIn1, rd_pNotIn1, rd_pIn2, rd_pIn3, rd_pNotIn2, rd_pNotIn3, rd_pBls, rd_pJoin2, rd_at0, rd_at1, rd_at2, rd_at3, rd_atL, rd_ixL, rd_pRepr, rd_pGt2, rd_pLt2]
    simp only [l1, l2, l3, str_num, SX.S_len, S_app, bodyF, recF, List.length_append, List.length_cons, List.length_nil]
    exact ⟨by omega, nat_log (by omega), by omega, by omega, h⟩
theorem pp_record_text : ∀ as Q X, ps_record_text as Q X → p_record_text (ends 2 Q) (as ++ nils (3 - as.length)) := by
  rintro as Q X ⟨⟨k, t⟩, rfl, hk, hl, h⟩
  obtain ⟨t, rfl⟩ : ∃ T, t = SX.S T := ⟨_, S_of t⟩
  simp only [S_cps, SX.S_len] at hk hl h
  have e2 := big
  obtain ⟨l1, l2, l3, l4, l5⟩ := lits
  have n1 := num1 hk
  have n2 := num6 hl
  have n3 := num10 (chk_lt (bodyL k t))
  have n4 := chk_lt (bodyL k t)
  have hb := body_len (k := k) (t := t)
  simp only [p_record_text, sSeq, sSet, sIf, sRet, sRetN, sNext, sBreak, sCont, sDrop, sNever, sAsg, sPar, sAug, sApp, sExt, sSetI, sForI, sWhile, sMid, sTry, sRaise, qVar, qC, qOp, qUn, qB, qAnd, qOr, qNot, qAndV, qOrV, qNotV, qIf, qNil, qCons, qCB, qTup, qLst, qCut, qPart, qNo, qM1, qM0, qCall, qChain, qXf, eQ, eVar, eC, eOp, eUn, eIf, eNil, eCons, eCB, eTup, eLst, eO, eCut, eM1, eM0, ePop, eIxV, eAnd, eOr, eNot, eAndV, eOrV, eNotV, eChain, eCutE, eNo, ePart, oSu, iS, tB', tQ, tYes', oE, oLst, oMove, oIf, oCall, oSt, oComp, iL, iT, iR1, iR2, gN, gT, gsNil, gsCons, cNil, cVal, cRef, free_0, free_succ, ends, outs, nils, resolve, putBack, allRef, refs, wipeE, pIsN, pNotN, pEq, pNe, eqOk_ii, eqOk_ss, eqOk_bb, eqOk_ni, eqOk_in, frS_frz, frS_own, frS_nil, List.replicate, List.getElem?_cons_zero, List.getElem?_cons_succ, List.set_cons_zero, List.set_cons_succ, List.cons_append, List.nil_append, List.length_cons, List.length_nil, List.take_succ_cons, List.take_zero, List.map_cons, List.map_nil, true_and, and_true, D.int.injEq, D.str.injEq, D.lst.injEq, decide_eq_true_eq, ite_true, ite_false, if_true, if_false, reduceIte, Bool.false_eq_true, false_and, and_false, Bool.not_true, Bool.not_false, Option.some.injEq, exists_eq_left', exists_eq_left, exists_and_left, List.nodup_cons, List.nodup_nil, List.not_mem_nil, not_false_eq_true, List.mem_cons, or_false, false_or, forall_eq, forall_eq_or_imp, Slot.own.injEq, Slot.par.injEq, Slot.frz.injEq, reduceCtorEq, exists_eq', exists_eq, exists_false, decide_true, decide_false, or_self, false_implies, implies_true, forall_const, eq_self, rd_lkL1, rd_lkL2, rd_lkL3, rd_lkE1, rd_lkE2, rd_thE1, rd_thE2, rd_lkF1, rd_lkX1, rd_lkX2, rd_lkX3, rd_mvS1, rd_mvS2, rd_mvE1, rd_mvE2, rd_lsO1, rd_lsO2, rd_tpO1, rd_sol1, rd_sol2, rd_sol3, rd_sol4, rd_sol5, rd_sol6, rd_sol7, rd_flat1, rd_flat2, rd_flat3, rd_flat4, rd_flat5, rd_asD1, rd_asD2, rd_asQ1, rd_asQ2, rd_asB, rd_asI, rd_p1, rd_p2, rd_pI0, rd_pI2, rd_pU, rd_pAdd1, rd_pAdd2, rd_pAdd3, rd_pAdd4, rd_pMul1, rd_pMul2, rd_pMul3, rd_pLen1, rd_pLen2, rd_pLen3, rd_pInt1, rd_pAbs, rd_pList1, rd_pList2, rd_pList3, rd_pCut1, rd_pCut2, rd_pCut3, rd_non1, rd_non2, rd_non3, rd_non4, rd_non5, rd_non6, rd_isStr, rd_pIx1, rd_pIx2, rd_pIx3, rd_pJoin1, rd_upS1, rd_upS2, rd_out1, rd_out2, rd_out3, rd_out4, rd_asL1, rd_asL2, rd_putL1, rd_putL2, rd_stA, rd_isi1, rd_isi2, rd_isi3, rd_isi4, rd_isX, rd_draw, rd_take, rd_pLt, rd_pLe, rd_pGt, rd_pGe, rd_pTuple1, rd_pTuple2, rd_pStr1, rd_pStr2, rd_pInt, rd_pIntS, rd_pIntB, rd_pOrd, rd_pMax, rd_pSplit, rd_pPart, rd_stO, rd_pCutS, rd_solB, rd_pIn1, rd_pNotIn1, rd_pIn2, rd_pIn3, rd_pNotIn2, rd_pNotIn3, rd_pBls, rd_pJoin2, rd_at0, rd_at1, rd_at2, rd_at3, rd_atL, rd_ixL, rd_pRepr, rd_pGt2, rd_pLt2]
  simp only [l1, l2, l3, str_num, SX.S_len, S_app, bodyF, recF, S_cps, c_chk, List.length_append, List.length_cons, List.length_nil, sSeq, sSet, sIf, sRet, sRetN, sNext, sBreak, sCont, sDrop, sNever, sAsg, sPar, sAug, sApp, sExt, sSetI, sForI, sWhile, sMid, sTry, sRaise, qVar, qC, qOp, qUn, qB, qAnd, qOr, qNot, qAndV, qOrV, qNotV, qIf, qNil, qCons, qCB, qTup, qLst, qCut, qPart, qNo, qM1, qM0, qCall, qChain, qXf, eQ, eVar, eC, eOp, eUn, eIf, eNil, eCons, eCB, eTup, eLst, eO, eCut, eM1, eM0, ePop, eIxV, eAnd, eOr, eNot, eAndV, eOrV, eNotV, eChain, eCutE, eNo, ePart, oSu, iS, tB', tQ, tYes', oE, oLst, oMove, oIf, oCall, oSt, oComp, iL, iT, iR1, iR2, gN, gT, gsNil, gsCons, cNil, cVal, cRef, free_0, free_succ, ends, outs, nils, resolve, putBack, allRef, refs, wipeE, pIsN, pNotN, pEq, pNe, eqOk_ii, eqOk_ss, eqOk_bb, eqOk_ni, eqOk_in, frS_frz, frS_own, frS_nil, List.replicate, List.getElem?_cons_zero, List.getElem?_cons_succ, List.set_cons_zero, List.set_cons_succ, List.cons_append, List.nil_append, List.length_cons, List.length_nil, List.take_succ_cons, List.take_zero, List.map_cons, List.map_nil, true_and, and_true, D.int.injEq, D.str.injEq, D.lst.injEq, decide_eq_true_eq, ite_true, ite_false, if_true, if_false, reduceIte, Bool.false_eq_true, false_and, and_false, Bool.not_true, Bool.not_false, Option.some.injEq, exists_eq_left', exists_eq_left, exists_and_left, List.nodup_cons, List.nodup_nil, List.not_mem_nil, not_false_eq_true, List.mem_cons, or_false, false_or, forall_eq, forall_eq_or_imp, Slot.own.injEq, Slot.par.injEq, Slot.frz.injEq, reduceCtorEq, exists_eq', exists_eq, exists_false, decide_true, decide_false, or_self, false_implies, implies_true, forall_const, eq_self, rd_lkL1, rd_lkL2, rd_lkL3, rd_lkE1, rd_lkE2, rd_thE1, rd_thE2, rd_lkF1, rd_lkX1, rd_lkX2, rd_lkX3, rd_mvS1, rd_mvS2, rd_mvE1, rd_mvE2, rd_lsO1, rd_lsO2, rd_tpO1, rd_sol1, rd_sol2, rd_sol3, rd_sol4, rd_sol5, rd_sol6, rd_sol7, rd_flat1, rd_flat2, rd_flat3, rd_flat4, rd_flat5, rd_asD1, rd_asD2, rd_asQ1, rd_asQ2, rd_asB, rd_asI, rd_p1, rd_p2, rd_pI0, rd_pI2, rd_pU, rd_pAdd1, rd_pAdd2, rd_pAdd3, rd_pAdd4, rd_pMul1, rd_pMul2, rd_pMul3, rd_pLen1, rd_pLen2, rd_pLen3, rd_pInt1, rd_pAbs, rd_pList1, rd_pList2, rd_pList3, rd_pCut1, rd_pCut2, rd_pCut3, rd_non1, rd_non2, rd_non3, rd_non4, rd_non5, rd_non6, rd_isStr, rd_pIx1, rd_pIx2, rd_pIx3, rd_pJoin1, rd_upS1, rd_upS2, rd_out1, rd_out2, rd_out3, rd_out4, rd_asL1, rd_asL2, rd_putL1, rd_putL2, rd_stA, rd_isi1, rd_isi2, rd_isi3, rd_isi4, rd_isX, rd_draw, rd_take, rd_pLt, rd_pLe, rd_pGt, rd_pGe, rd_pTuple1, rd_pTuple2, rd_pStr1, rd_pStr2, rd_pInt, rd_pIntS, rd_pIntB, rd_pOrd, rd_pMax, rd_pSplit, rd_pPart, rd_stO, rd_pCutS, rd_solB, rd_pIn1, rd_pNotIn1, rd_pIn2, rd_pIn3, rd_pNotIn2, rd_pNotIn3, rd_pBls, rd_pJoin2, rd_at0, rd_at1, rd_at2, rd_at3, rd_atL, rd_ixL, rd_pRepr, rd_pGt2, rd_pLt2]
  and_intros
  all_goals first | exact nat_log (by omega) | omega | exact h
def digs : List Nat := (Str.ofString "0123456789").cps.toList
def nonDig : D → Bool
  | .str x => x.cps.toList.any fun c => !decide (c ∈ digs)
  | _ => false
theorem pp_is_number : ∀ as Q X, ps_is_number as Q X → p_is_number (ends 1 Q) (as ++ nils (2 - as.length)) := by
  rintro as Q X ⟨t, rfl, hl, h⟩
  obtain ⟨t, rfl⟩ : ∃ T, t = SX.S T := ⟨_, S_of t⟩
  simp only [S_cps, SX.S_len] at hl h
  have e2 := big
  obtain ⟨l1, l2, l3, l4, l5⟩ := lits
  unfold isNum at h
  simp only [p_is_number, sSeq, sSet, sIf, sRet, sRetN, sNext, sBreak, sCont, sDrop, sNever, sAsg, sPar, sAug, sApp, sExt, sSetI, sForI, sWhile, sMid, sTry, sRaise, qVar, qC, qOp, qUn, qB, qAnd, qOr, qNot, qAndV, qOrV, qNotV, qIf, qNil, qCons, qCB, qTup, qLst, qCut, qPart, qNo, qM1, qM0, qCall, qChain, qXf, eQ, eVar, eC, eOp, eUn, eIf, eNil, eCons, eCB, eTup, eLst, eO, eCut, eM1, eM0, ePop, eIxV, eAnd, eOr, eNot, eAndV, eOrV, eNotV, eChain, eCutE, eNo, ePart, oSu, iS, tB', tQ, tYes', oE, oLst, oMove, oIf, oCall, oSt, oComp, iL, iT, iR1, iR2, gN, gT, gsNil, gsCons, cNil, cVal, cRef, free_0, free_succ, ends, outs, nils, resolve, putBack, allRef, refs, wipeE, pIsN, pNotN, pEq, pNe, eqOk_ii, eqOk_ss, eqOk_bb, eqOk_ni, eqOk_in, frS_frz, frS_own, frS_nil, List.replicate, List.getElem?_cons_zero, List.getElem?_cons_succ, List.set_cons_zero, List.set_cons_succ, List.cons_append, List.nil_append, List.length_cons, List.length_nil, List.take_succ_cons, List.take_zero, List.map_cons, List.map_nil, true_and, and_true, D.int.injEq, D.str.injEq, D.lst.injEq, decide_eq_true_eq, ite_true, ite_false, if_true, if_false, reduceIte, Bool.false_eq_true, false_and, and_false, Bool.not_true, Bool.not_false, Option.some.injEq, exists_eq_left', exists_eq_left, exists_and_left, List.nodup_cons, List.nodup_nil, List.not_mem_nil, not_false_eq_true, List.mem_cons, or_false, false_or, forall_eq, forall_eq_or_imp, Slot.own.injEq, Slot.par.injEq, Slot.frz.injEq, reduceCtorEq, exists_eq', exists_eq, exists_false, decide_true, decide_false, or_self, false_implies, implies_true, forall_const, eq_self, rd_lkL1, rd_lkL2, rd_lkL3, rd_lkE1, rd_lkE2, rd_thE1, rd_thE2, rd_lkF1, rd_lkX1, rd_lkX2, rd_lkX3, rd_mvS1, rd_mvS2, rd_mvE1, rd_mvE2, rd_lsO1, rd_lsO2, rd_tpO1, rd_sol1, rd_sol2, rd_sol3, rd_sol4, rd_sol5, rd_sol6, rd_sol7, rd_flat1, rd_flat2, rd_flat3, rd_flat4, rd_flat5, rd_asD1, rd_asD2, rd_asQ1, rd_asQ2, rd_asB, rd_asI, rd_p1, rd_p2, rd_pI0, rd_pI2, rd_pU, rd_pAdd1, rd_pAdd2, rd_pAdd3, rd_pAdd4, rd_pMul1, rd_pMul2, rd_pMul3, rd_pLen1, rd_pLen2, rd_pLen3, rd_pInt1, rd_pAbs, rd_pList1, rd_pList2, rd_pList3, rd_pCut1, rd_pCut2, rd_pCut3, rd_non1, rd_non2, rd_non3, rd_non4, rd_non5, rd_non6, rd_isStr, rd_pIx1, rd_pIx2, rd_pIx3, rd_pJoin1, rd_upS1, rd_upS2, rd_out1, rd_out2, rd_out3, rd_out4, rd_asL1, rd_asL2, rd_putL1, rd_putL2, rd_stA, rd_isi1, rd_isi2, rd_isi3, rd_isi4, rd_isX, rd_draw, rd_take, rd_pLt, rd_pLe, rd_pGt, rd_pGe, rd_pTuple1, rd_pTuple2, rd_pStr1, rd_pStr2, rd_pInt, rd_pIntS, rd_pIntB, rd_pOrd, rd_pMax, rd_pSplit, rd_pPart, rd_stO, rd_pCutS, rd_solB, rd_pIn1, rd_pNotIn1, rd_pIn2, rd_pIn3, rd_pNotIn2, rd_pNotIn3, rd_pBls, rd_pJoin2, rd_at0, rd_at1, rd_at2, rd_at3, rd_atL, rd_ixL, rd_pRepr, rd_pGt2, rd_pLt2]
  by_cases h1 : t = []
  · rw [if_pos (show SX.S t = Str.ofString "" by rw [l4, h1])]
    rw [decide_eq_true h1] at h
    exact h
  rw [if_neg (show ¬ SX.S t = Str.ofString "" by rw [l4, S_inj]; exact h1)]
  rw [decide_eq_false h1] at h
  rw [SX.S_len]
  refine ⟨by omega, ?_⟩
  by_cases h2 : t.length > 6
  · rw [if_pos (by omega)]
    rw [decide_eq_true h2] at h
    exact h
  rw [if_neg (by omega)]
  rw [decide_eq_false h2, Bool.false_or, Bool.false_or] at h
  refine comp_map (fun d => D.bl (nonDig d)) (by rw [sgn_len, SX.S_len]; omega) (fun d hd K k => ?_) ?_
  · obtain ⟨c, hc, rfl⟩ := List.mem_map.mp hd
    simp only [sSeq, sSet, sIf, sRet, sRetN, sNext, sBreak, sCont, sDrop, sNever, sAsg, sPar, sAug, sApp, sExt, sSetI, sForI, sWhile, sMid, sTry, sRaise, qVar, qC, qOp, qUn, qB, qAnd, qOr, qNot, qAndV, qOrV, qNotV, qIf, qNil, qCons, qCB, qTup, qLst, qCut, qPart, qNo, qM1, qM0, qCall, qChain, qXf, eQ, eVar, eC, eOp, eUn, eIf, eNil, eCons, eCB, eTup, eLst, eO, eCut, eM1, eM0, ePop, eIxV, eAnd, eOr, eNot, eAndV, eOrV, eNotV, eChain, eCutE, eNo, ePart, oSu, iS, tB', tQ, tYes', oE, oLst, oMove, oIf, oCall, oSt, oComp, iL, iT, iR1, iR2, gN, gT, gsNil, gsCons, cNil, cVal, cRef, free_0, free_succ, ends, outs, nils, resolve, putBack, allRef, refs, wipeE, pIsN, pNotN, pEq, pNe, eqOk_ii, eqOk_ss, eqOk_bb, eqOk_ni, eqOk_in, frS_frz, frS_own, frS_nil, List.replicate, List.getElem?_cons_zero, List.getElem?_cons_succ, List.set_cons_zero, List.set_cons_succ, List.cons_append, List.nil_append, List.length_cons, List.length_nil, List.take_succ_cons, List.take_zero, List.map_cons, List.map_nil, true_and, and_true, D.int.injEq, D.str.injEq, D.lst.injEq, decide_eq_true_eq, ite_true, ite_false, if_true, if_false, reduceIte, Bool.false_eq_true, false_and, and_false, Bool.not_true, Bool.not_false, Option.some.injEq, exists_eq_left', exists_eq_left, exists_and_left, List.nodup_cons, List.nodup_nil, List.not_mem_nil, not_false_eq_true, List.mem_cons, or_false, false_or, forall_eq, forall_eq_or_imp, Slot.own.injEq, Slot.par.injEq, Slot.frz.injEq, reduceCtorEq, exists_eq', exists_eq, exists_false, decide_true, decide_false, or_self, false_implies, implies_true, forall_const, eq_self, rd_lkL1, rd_lkL2, rd_lkL3, rd_lkE1, rd_lkE2, rd_thE1, rd_thE2, rd_lkF1, rd_lkX1, rd_lkX2, rd_lkX3, rd_mvS1, rd_mvS2, rd_mvE1, rd_mvE2, rd_lsO1, rd_lsO2, rd_tpO1, rd_sol1, rd_sol2, rd_sol3, rd_sol4, rd_sol5, rd_sol6, rd_sol7, rd_flat1, rd_flat2, rd_flat3, rd_flat4, rd_flat5, rd_asD1, rd_asD2, rd_asQ1, rd_asQ2, rd_asB, rd_asI, rd_p1, rd_p2, rd_pI0, rd_pI2, rd_pU, rd_pAdd1, rd_pAdd2, rd_pAdd3, rd_pAdd4, rd_pMul1, rd_pMul2, rd_pMul3, rd_pLen1, rd_pLen2, rd_pLen3, rd_pInt1, rd_pAbs, rd_pList1, rd_pList2, rd_pList3, rd_pCut1, rd_pCut2, rd_pCut3, rd_non1, rd_non2, rd_non3, rd_non4, rd_non5, rd_non6, rd_isStr, rd_pIx1, rd_pIx2, rd_pIx3, rd_pJoin1, rd_upS1, rd_upS2, rd_out1, rd_out2, rd_out3, rd_out4, rd_asL1, rd_asL2, rd_putL1, rd_putL2, rd_stA, rd_isi1, rd_isi2, rd_isi3, rd_isi4, rd_isX, rd_draw, rd_take, rd_pLt, rd_pLe, rd_pGt, rd_pGe, rd_pTuple1, rd_pTuple2, rd_pStr1, rd_pStr2, rd_pInt, rd_pIntS, rd_pIntB, rd_pOrd, rd_pMax, rd_pSplit, rd_pPart, rd_stO, rd_pCutS, rd_solB, rd_pIn1, rd_pNotIn1, rd_pIn2, rd_pIn3, rd_pNotIn2, rd_pNotIn3, rd_pBls, rd_pJoin2, rd_at0, rd_at1, rd_at2, rd_at3, rd_atL, rd_ixL, rd_pRepr, rd_pGt2, rd_pLt2]
    have e : nonDig (D.str ⟨#[c]⟩) = !decide (c ∈ (Str.ofString "0123456789").cps.toList) := by simp [nonDig, digs]
    rw [e] at k
    exact k
  · have e : (signsD (SX.S t)).map (fun d => D.bl (nonDig d)) = (t.map fun c => !decide (c ∈ (Str.ofString "0123456789").cps.toList)).map D.bl := by
      unfold signsD
      rw [List.map_map, List.map_map, S_cps]
      apply List.map_congr_left
      intro c _
      simp [nonDig, digs]
    rw [e]
    have e3 : (t.map fun c => !decide (c ∈ (Str.ofString "0123456789").cps.toList)).any id = t.any fun c => !decide (c ∈ (Str.ofString "0123456789").cps.toList) := by rw [List.any_map]; rfl
    simp only [e3, sSeq, sSet, sIf, sRet, sRetN, sNext, sBreak, sCont, sDrop, sNever, sAsg, sPar, sAug, sApp, sExt, sSetI, sForI, sWhile, sMid, sTry, sRaise, qVar, qC, qOp, qUn, qB, qAnd, qOr, qNot, qAndV, qOrV, qNotV, qIf, qNil, qCons, qCB, qTup, qLst, qCut, qPart, qNo, qM1, qM0, qCall, qChain, qXf, eQ, eVar, eC, eOp, eUn, eIf, eNil, eCons, eCB, eTup, eLst, eO, eCut, eM1, eM0, ePop, eIxV, eAnd, eOr, eNot, eAndV, eOrV, eNotV, eChain, eCutE, eNo, ePart, oSu, iS, tB', tQ, tYes', oE, oLst, oMove, oIf, oCall, oSt, oComp, iL, iT, iR1, iR2, gN, gT, gsNil, gsCons, cNil, cVal, cRef, free_0, free_succ, ends, outs, nils, resolve, putBack, allRef, refs, wipeE, pIsN, pNotN, pEq, pNe, eqOk_ii, eqOk_ss, eqOk_bb, eqOk_ni, eqOk_in, frS_frz, frS_own, frS_nil, List.replicate, List.getElem?_cons_zero, List.getElem?_cons_succ, List.set_cons_zero, List.set_cons_succ, List.cons_append, List.nil_append, List.length_cons, List.length_nil, List.take_succ_cons, List.take_zero, List.map_cons, List.map_nil, true_and, and_true, D.int.injEq, D.str.injEq, D.lst.injEq, decide_eq_true_eq, ite_true, ite_false, if_true, if_false, reduceIte, Bool.false_eq_true, false_and, and_false, Bool.not_true, Bool.not_false, Option.some.injEq, exists_eq_left', exists_eq_left, exists_and_left, List.nodup_cons, List.nodup_nil, List.not_mem_nil, not_false_eq_true, List.mem_cons, or_false, false_or, forall_eq, forall_eq_or_imp, Slot.own.injEq, Slot.par.injEq, Slot.frz.injEq, reduceCtorEq, exists_eq', exists_eq, exists_false, decide_true, decide_false, or_self, false_implies, implies_true, forall_const, eq_self, rd_lkL1, rd_lkL2, rd_lkL3, rd_lkE1, rd_lkE2, rd_thE1, rd_thE2, rd_lkF1, rd_lkX1, rd_lkX2, rd_lkX3, rd_mvS1, rd_mvS2, rd_mvE1, rd_mvE2, rd_lsO1, rd_lsO2, rd_tpO1, rd_sol1, rd_sol2, rd_sol3, rd_sol4, rd_sol5, rd_sol6, rd_sol7, rd_flat1, rd_flat2, rd_flat3, rd_flat4, rd_flat5, rd_asD1, rd_asD2, rd_asQ1, rd_asQ2, rd_asB, rd_asI, rd_p1, rd_p2, rd_pI0, rd_pI2, rd_pU, rd_pAdd1, rd_pAdd2, rd_pAdd3, rd_pAdd4, rd_pMul1, rd_pMul2, rd_pMul3, rd_pLen1, rd_pLen2, rd_pLen3, rd_pInt1, rd_pAbs, rd_pList1, rd_pList2, rd_pList3, rd_pCut1, rd_pCut2, rd_pCut3, rd_non1, rd_non2, rd_non3, rd_non4, rd_non5, rd_non6, rd_isStr, rd_pIx1, rd_pIx2, rd_pIx3, rd_pJoin1, rd_upS1, rd_upS2, rd_out1, rd_out2, rd_out3, rd_out4, rd_asL1, rd_asL2, rd_putL1, rd_putL2, rd_stA, rd_isi1, rd_isi2, rd_isi3, rd_isi4, rd_isX, rd_draw, rd_take, rd_pLt, rd_pLe, rd_pGt, rd_pGe, rd_pTuple1, rd_pTuple2, rd_pStr1, rd_pStr2, rd_pInt, rd_pIntS, rd_pIntB, rd_pOrd, rd_pMax, rd_pSplit, rd_pPart, rd_stO, rd_pCutS, rd_solB, rd_pIn1, rd_pNotIn1, rd_pIn2, rd_pIn3, rd_pNotIn2, rd_pNotIn3, rd_pBls, rd_pJoin2, rd_at0, rd_at1, rd_at2, rd_at3, rd_atL, rd_ixL, rd_pRepr, rd_pGt2, rd_pLt2]
    by_cases h3 : (t.any fun c => !decide (c ∈ (Str.ofString "0123456789").cps.toList)) = true
    · rw [if_pos h3]
      rw [h3] at h
      exact h
    rw [if_neg h3]
    rw [Bool.not_eq_true] at h3
    rw [h3] at h
    by_cases h4 : t = [48]
    · rw [if_pos (show SX.S t = Str.ofString "0" by rw [l5, h4])]
      rw [decide_eq_true h4] at h
      exact h
    rw [if_neg (show ¬ SX.S t = Str.ofString "0" by rw [l5, S_inj]; exact h4)]
    rw [decide_eq_false h4] at h
    cases t with
    | nil => exact absurd rfl h1
    | cons c r =>
      simp only [S_cps, rd_at0, SX.S_len, l5, sSeq, sSet, sIf, sRet, sRetN, sNext, sBreak, sCont, sDrop, sNever, sAsg, sPar, sAug, sApp, sExt, sSetI, sForI, sWhile, sMid, sTry, sRaise, qVar, qC, qOp, qUn, qB, qAnd, qOr, qNot, qAndV, qOrV, qNotV, qIf, qNil, qCons, qCB, qTup, qLst, qCut, qPart, qNo, qM1, qM0, qCall, qChain, qXf, eQ, eVar, eC, eOp, eUn, eIf, eNil, eCons, eCB, eTup, eLst, eO, eCut, eM1, eM0, ePop, eIxV, eAnd, eOr, eNot, eAndV, eOrV, eNotV, eChain, eCutE, eNo, ePart, oSu, iS, tB', tQ, tYes', oE, oLst, oMove, oIf, oCall, oSt, oComp, iL, iT, iR1, iR2, gN, gT, gsNil, gsCons, cNil, cVal, cRef, free_0, free_succ, ends, outs, nils, resolve, putBack, allRef, refs, wipeE, pIsN, pNotN, pEq, pNe, eqOk_ii, eqOk_ss, eqOk_bb, eqOk_ni, eqOk_in, frS_frz, frS_own, frS_nil, List.replicate, List.getElem?_cons_zero, List.getElem?_cons_succ, List.set_cons_zero, List.set_cons_succ, List.cons_append, List.nil_append, List.length_cons, List.length_nil, List.take_succ_cons, List.take_zero, List.map_cons, List.map_nil, true_and, and_true, D.int.injEq, D.str.injEq, D.lst.injEq, decide_eq_true_eq, ite_true, ite_false, if_true, if_false, reduceIte, Bool.false_eq_true, false_and, and_false, Bool.not_true, Bool.not_false, Option.some.injEq, exists_eq_left', exists_eq_left, exists_and_left, List.nodup_cons, List.nodup_nil, List.not_mem_nil, not_false_eq_true, List.mem_cons, or_false, false_or, forall_eq, forall_eq_or_imp, Slot.own.injEq, Slot.par.injEq, Slot.frz.injEq, reduceCtorEq, exists_eq', exists_eq, exists_false, decide_true, decide_false, or_self, false_implies, implies_true, forall_const, eq_self, rd_lkL1, rd_lkL2, rd_lkL3, rd_lkE1, rd_lkE2, rd_thE1, rd_thE2, rd_lkF1, rd_lkX1, rd_lkX2, rd_lkX3, rd_mvS1, rd_mvS2, rd_mvE1, rd_mvE2, rd_lsO1, rd_lsO2, rd_tpO1, rd_sol1, rd_sol2, rd_sol3, rd_sol4, rd_sol5, rd_sol6, rd_sol7, rd_flat1, rd_flat2, rd_flat3, rd_flat4, rd_flat5, rd_asD1, rd_asD2, rd_asQ1, rd_asQ2, rd_asB, rd_asI, rd_p1, rd_p2, rd_pI0, rd_pI2, rd_pU, rd_pAdd1, rd_pAdd2, rd_pAdd3, rd_pAdd4, rd_pMul1, rd_pMul2, rd_pMul3, rd_pLen1, rd_pLen2, rd_pLen3, rd_pInt1, rd_pAbs, rd_pList1, rd_pList2, rd_pList3, rd_pCut1, rd_pCut2, rd_pCut3, rd_non1, rd_non2, rd_non3, rd_non4, rd_non5, rd_non6, rd_isStr, rd_pIx1, rd_pIx2, rd_pIx3, rd_pJoin1, rd_upS1, rd_upS2, rd_out1, rd_out2, rd_out3, rd_out4, rd_asL1, rd_asL2, rd_putL1, rd_putL2, rd_stA, rd_isi1, rd_isi2, rd_isi3, rd_isi4, rd_isX, rd_draw, rd_take, rd_pLt, rd_pLe, rd_pGt, rd_pGe, rd_pTuple1, rd_pTuple2, rd_pStr1, rd_pStr2, rd_pInt, rd_pIntS, rd_pIntB, rd_pOrd, rd_pMax, rd_pSplit, rd_pPart, rd_stO, rd_pCutS, rd_solB, rd_pIn1, rd_pNotIn1, rd_pIn2, rd_pIn3, rd_pNotIn2, rd_pNotIn3, rd_pBls, rd_pJoin2, rd_at0, rd_at1, rd_at2, rd_at3, rd_atL, rd_ixL, rd_pRepr, rd_pGt2, rd_pLt2]
      refine ⟨by rw [List.length_cons] at h2; omega, ?_⟩
      rw [show (decide ((⟨#[c]⟩ : Str) = SX.S [48])) = decide ((c :: r).head? = some 48) from decide_eq_decide.mpr (by rw [S_one, S_inj]; simp)]
      exact h
theorem match_head {l t : List Nat} {k : Nat} (h : Match l k t) : ∃ r, l = [48 + k, 32] ++ TL.numL t.length ++ [58] ++ t ++ [58] ++ TL.numL (chk (bodyL k t)) ++ [59] ++ r ∧ k < 10 := by
  obtain ⟨hk, r, e⟩ := h
  refine ⟨r, ?_, by omega⟩
  rw [← e]
  unfold recL
  generalize chk (bodyL k t) = n
  unfold bodyL
  rw [TL.numL_lt (by omega : k < 10)]
  simp only [List.append_assoc, List.cons_append, List.nil_append]
theorem digs_inj {a b : List Nat} {n m : Nat} (h : TL.numL n ++ 58 :: a = TL.numL m ++ 58 :: b) : n = m ∧ a = b := by
  have free : ∀ n, 58 ∉ TL.numL n := fun n => TL.numL_free (.inr (by decide))
  have key : ∀ (x y a b : List Nat), 58 ∉ x → 58 ∉ y → x ++ 58 :: a = y ++ 58 :: b → x = y ∧ a = b := by
    intro x
    induction x with
    | nil =>
      intro y a b _ hy e
      cases y with
      | nil => exact ⟨rfl, by simpa using e⟩
      | cons c y => simp at e; exact absurd (by simp [← e.1]) hy
    | cons c x ih =>
      intro y a b hx hy e
      cases y with
      | nil => simp at e; exact absurd (by simp [e.1]) hx
      | cons d y =>
        simp only [List.cons_append, List.cons.injEq] at e
        obtain ⟨h1, h2⟩ := ih y a b (fun z => hx (by simp [z])) (fun z => hy (by simp [z])) e.2
        exact ⟨by rw [e.1, h1], h2⟩
  obtain ⟨h1, h2⟩ := key _ _ _ _ (free n) (free m) h
  exact ⟨TL.numL_inj h1, h2⟩
theorem match_one {l t t' : List Nat} {k k' : Nat} (h : Match l k t) (h' : Match l k' t') : k = k' ∧ t = t' := by
  obtain ⟨r, e, hk⟩ := match_head h
  obtain ⟨r', e', hk'⟩ := match_head h'
  rw [e] at e'
  simp only [List.append_assoc, List.cons_append, List.nil_append, List.cons.injEq] at e'
  obtain ⟨a, _, b⟩ := e'
  obtain ⟨c, d⟩ := digs_inj b
  refine ⟨by omega, ?_⟩
  have := congrArg (List.take t.length) d
  rw [List.take_left, c, List.take_left] at this
  exact this
theorem reads_one {l : List Nat} {rs rs' : List (Nat × List Nat)} {m m' : Nat} (h : Reads l rs m) (h' : Reads l rs' m') : rs = rs' ∧ m = m' := by
  induction h generalizing rs' m' with
  | nil h =>
    cases h' with
    | nil => exact ⟨rfl, rfl⟩
    | cons a _ => exact absurd a (h _ _)
  | cons h r ih =>
    cases h' with
    | nil a => exact absurd h (a _ _)
    | cons a r' =>
      obtain ⟨rfl, rfl⟩ := match_one h a
      obtain ⟨rfl, rfl⟩ := ih r'
      exact ⟨rfl, rfl⟩
theorem k_kinds : k_KINDS = .tup [.str "1", .str "2", .str "3"] := rfl
theorem ks : Str.ofString "1" = SX.S [49] ∧ Str.ofString "2" = SX.S [50] ∧ Str.ofString "3" = SX.S [51] ∧ Str.ofString "0123456789" = SX.S [48, 49, 50, 51, 52, 53, 54, 55, 56, 57] := by decide +kernel
theorem isNum_ok {l : List Nat} (h : isNum l = true) : l ≠ [] ∧ l.length ≤ 6 ∧ (∀ c ∈ l, 48 ≤ c ∧ c ≤ 57) ∧ (l = [48] ∨ l.head? ≠ some 48) := by
  unfold isNum at h
  rw [ks.2.2.2, S_cps] at h
  simp only [Bool.and_eq_true, Bool.or_eq_true, Bool.not_eq_true', Bool.or_eq_false_iff, decide_eq_true_eq, decide_eq_false_iff_not, List.any_eq_false] at h
  obtain ⟨⟨⟨h1, h2⟩, h3⟩, h4⟩ := h
  refine ⟨h1, by omega, fun c hc => ?_, h4⟩
  have := h3 c hc
  simp at this
  omega
theorem isNum_num {n : Nat} (h : n ≤ 100000) : isNum (TL.numL n) = true := by
  have hd := TL.numL_digits n
  have hl := num6 h
  have hne := TL.numL_ne n
  unfold isNum
  rw [ks.2.2.2, S_cps]
  simp only [Bool.and_eq_true, Bool.or_eq_true, Bool.not_eq_true', Bool.or_eq_false_iff, decide_eq_true_eq, decide_eq_false_iff_not, List.any_eq_false]
  refine ⟨⟨⟨hne, by omega⟩, fun c hc => ?_⟩, ?_⟩
  · have := hd c hc
    simp
    omega
  · by_cases h0 : n = 0
    · subst h0
      exact .inl (TL.numL_lt (by omega))
    · right
      intro z
      have key : ∀ m, m ≠ 0 → (TL.numL m).head? ≠ some 48 := by
        intro m
        induction m using Nat.strongRecOn with
        | ind m ih =>
          intro hm
          by_cases h10 : m < 10
          · rw [TL.numL_lt h10]
            simp
            omega
          · rw [TL.numL_step (by omega)]
            have := ih (m / 10) (by omega) (by omega)
            rw [List.head?_append]
            cases q : (TL.numL (m / 10)).head? with
            | none => rw [List.head?_eq_none_iff] at q; exact absurd q (TL.numL_ne _)
            | some v => rw [q] at this; simpa using this
      exact key n h0 z
theorem prefix_take {a b l : List Nat} (h : a ++ b <+: l) (n : Nat) (hn : n = a.length) : l.take n = a ∧ b <+: l.drop n := by
  obtain ⟨r, rfl⟩ := h
  subst hn
  rw [List.append_assoc, List.take_left, List.drop_left]
  exact ⟨rfl, r, rfl⟩
theorem match_w {l t : List Nat} {k : Nat} (h : Match l k t) (hl : l.length ≤ 100000) : (k = 1 ∨ k = 2 ∨ k = 3) ∧ t.length ≤ 100000 ∧ ∃ rest, l.take 9 = ([48 + k, 32] ++ TL.numL t.length) ++ 58 :: rest := by
  obtain ⟨r, e, hk⟩ := match_head h
  have ht : t.length ≤ 100000 := by
    have := congrArg List.length e
    simp only [List.length_append, List.length_cons, List.length_nil] at this
    omega
  have hn := num6 ht
  refine ⟨h.1, ht, (t ++ [58] ++ TL.numL (chk (bodyL k t)) ++ [59] ++ r).take (9 - (2 + (TL.numL t.length).length + 1)), ?_⟩
  have e2 : l = (([48 + k, 32] ++ TL.numL t.length) ++ [58]) ++ (t ++ [58] ++ TL.numL (chk (bodyL k t)) ++ [59] ++ r) := by
    rw [e]
    simp only [List.append_assoc]
  have hlen : (([48 + k, 32] ++ TL.numL t.length) ++ [58]).length = 2 + (TL.numL t.length).length + 1 := by
    simp only [List.length_append, List.length_cons, List.length_nil]
  rw [e2, List.take_append, hlen, List.take_of_length_le (by rw [hlen]; omega)]
  simp only [List.append_assoc, List.cons_append, List.nil_append]
def tailL (b : List Nat) : List Nat := 58 :: (TL.numL (chk b) ++ [59])
theorem rec_tail (k : Nat) (t : List Nat) : recL k t = bodyL k t ++ tailL (bodyL k t) := by
  unfold recL tailL
  simp only [List.append_assoc, List.cons_append, List.nil_append]
theorem match_mk {l p R : List Nat} {k n : Nat} (hk : k = 1 ∨ k = 2 ∨ k = 3) (hl : l = p ++ 58 :: R) (hp : p = [48 + k, 32] ++ TL.numL n) (ht : (l.drop (p.length + 1 + n)).take (tailL (l.take (p.length + 1 + n))).length = tailL (l.take (p.length + 1 + n))) :
    ∃ t, Match l k t ∧ (l.drop (p.length + 1)).take n = t ∧ (recL k t).length = p.length + 1 + n + (tailL (l.take (p.length + 1 + n))).length := by
  have hlen : p.length + 1 + n ≤ l.length := by
    by_cases z : p.length + 1 + n ≤ l.length
    · exact z
    · rw [List.drop_eq_nil_of_le (by omega), List.take_nil] at ht
      cases ht
  have hR : l.drop (p.length + 1) = R := by
    rw [hl, show p ++ 58 :: R = (p ++ [58]) ++ R by simp, List.drop_left' (by simp)]
  have htn : (R.take n).length = n := by
    rw [List.length_take]
    have := congrArg List.length hl
    simp only [List.length_append, List.length_cons] at this
    omega
  have hB : l.take (p.length + 1 + n) = bodyL k (R.take n) := by
    unfold bodyL
    rw [htn, TL.numL_lt (by omega : k < 10), hl, List.take_append, List.take_of_length_le (by omega), show p.length + 1 + n - p.length = n + 1 by omega, List.take_succ_cons, hp]
    simp only [List.append_assoc, List.cons_append, List.nil_append]
  have hT := ht
  rw [hB] at hT ⊢
  refine ⟨R.take n, ⟨hk, ?_⟩, by rw [hR], ?_⟩
  · rw [rec_tail]
    refine ⟨(l.drop (p.length + 1 + n)).drop (tailL (bodyL k (R.take n))).length, ?_⟩
    rw [List.append_assoc]
    conv => lhs; arg 2; arg 1; rw [← hT]
    rw [List.take_append_drop, ← hB, List.take_append_drop]
  · rw [rec_tail, List.length_append, ← hB, List.length_take]
    omega
theorem match_un {l p t : List Nat} {k n : Nat} (h : Match l k t) (hp : p = [48 + k, 32] ++ TL.numL n) (hn : n = t.length) : (l.drop (p.length + 1 + n)).take (tailL (l.take (p.length + 1 + n))).length = tailL (l.take (p.length + 1 + n)) := by
  subst hn
  obtain ⟨hk, r, e⟩ := h
  have hb : (bodyL k t).length = p.length + 1 + t.length := by
    rw [body_len, hp, num1 (by omega)]
    simp only [List.length_append, List.length_cons, List.length_nil]
    omega
  have h1 : l.take (p.length + 1 + t.length) = bodyL k t := by rw [← e, rec_tail, List.append_assoc, List.take_left' hb]
  rw [h1, ← e, rec_tail, List.append_assoc, List.drop_left' hb, List.take_left]
theorem pp_read_record : ∀ as Q X, ps_read_record as Q X → p_read_record (ends 2 Q) (as ++ nils (7 - as.length)) := by
  rintro as Q X ⟨⟨x, a⟩, rfl, hl, hc8, hm, hn⟩
  obtain ⟨x, rfl⟩ : ∃ T, x = SX.S T := ⟨_, S_of x⟩
  simp only [S_cps, SX.S_len] at hl hc8 hm hn
  have e2 := big
  obtain ⟨l1, l2, l3, l4, l5⟩ := lits
  obtain ⟨k1, k2, k3, _⟩ := ks
  have e9 : (a : Int) + 9 = ((a + 9 : Nat) : Int) := by omega
  have hw9 : (List.take 9 (List.drop a x)).length ≤ 9 := by rw [List.length_take]; omega
  have hdl : (List.drop a x).length ≤ 100000 := by rw [List.length_drop]; omega
  simp only [p_read_record, sSeq, sSet, sIf, sRet, sRetN, sNext, sBreak, sCont, sDrop, sNever, sAsg, sPar, sAug, sApp, sExt, sSetI, sForI, sWhile, sMid, sTry, sRaise, qVar, qC, qOp, qUn, qB, qAnd, qOr, qNot, qAndV, qOrV, qNotV, qIf, qNil, qCons, qCB, qTup, qLst, qCut, qPart, qNo, qM1, qM0, qCall, qChain, qXf, eQ, eVar, eC, eOp, eUn, eIf, eNil, eCons, eCB, eTup, eLst, eO, eCut, eM1, eM0, ePop, eIxV, eAnd, eOr, eNot, eAndV, eOrV, eNotV, eChain, eCutE, eNo, ePart, oSu, iS, tB', tQ, tYes', oE, oLst, oMove, oIf, oCall, oSt, oComp, iL, iT, iR1, iR2, gN, gT, gsNil, gsCons, cNil, cVal, cRef, free_0, free_succ, ends, outs, nils, resolve, putBack, allRef, refs, wipeE, pIsN, pNotN, pEq, pNe, eqOk_ii, eqOk_ss, eqOk_bb, eqOk_ni, eqOk_in, frS_frz, frS_own, frS_nil, List.replicate, List.getElem?_cons_zero, List.getElem?_cons_succ, List.set_cons_zero, List.set_cons_succ, List.cons_append, List.nil_append, List.length_cons, List.length_nil, List.take_succ_cons, List.take_zero, List.map_cons, List.map_nil, true_and, and_true, D.int.injEq, D.str.injEq, D.lst.injEq, decide_eq_true_eq, ite_true, ite_false, if_true, if_false, reduceIte, Bool.false_eq_true, false_and, and_false, Bool.not_true, Bool.not_false, Option.some.injEq, exists_eq_left', exists_eq_left, exists_and_left, List.nodup_cons, List.nodup_nil, List.not_mem_nil, not_false_eq_true, List.mem_cons, or_false, false_or, forall_eq, forall_eq_or_imp, Slot.own.injEq, Slot.par.injEq, Slot.frz.injEq, reduceCtorEq, exists_eq', exists_eq, exists_false, decide_true, decide_false, or_self, false_implies, implies_true, forall_const, eq_self, rd_lkL1, rd_lkL2, rd_lkL3, rd_lkE1, rd_lkE2, rd_thE1, rd_thE2, rd_lkF1, rd_lkX1, rd_lkX2, rd_lkX3, rd_mvS1, rd_mvS2, rd_mvE1, rd_mvE2, rd_lsO1, rd_lsO2, rd_tpO1, rd_sol1, rd_sol2, rd_sol3, rd_sol4, rd_sol5, rd_sol6, rd_sol7, rd_flat1, rd_flat2, rd_flat3, rd_flat4, rd_flat5, rd_asD1, rd_asD2, rd_asQ1, rd_asQ2, rd_asB, rd_asI, rd_p1, rd_p2, rd_pI0, rd_pI2, rd_pU, rd_pAdd1, rd_pAdd2, rd_pAdd3, rd_pAdd4, rd_pMul1, rd_pMul2, rd_pMul3, rd_pLen1, rd_pLen2, rd_pLen3, rd_pInt1, rd_pAbs, rd_pList1, rd_pList2, rd_pList3, rd_pCut1, rd_pCut2, rd_pCut3, rd_non1, rd_non2, rd_non3, rd_non4, rd_non5, rd_non6, rd_isStr, rd_pIx1, rd_pIx2, rd_pIx3, rd_pJoin1, rd_upS1, rd_upS2, rd_out1, rd_out2, rd_out3, rd_out4, rd_asL1, rd_asL2, rd_putL1, rd_putL2, rd_stA, rd_isi1, rd_isi2, rd_isi3, rd_isi4, rd_isX, rd_draw, rd_take, rd_pLt, rd_pLe, rd_pGt, rd_pGe, rd_pTuple1, rd_pTuple2, rd_pStr1, rd_pStr2, rd_pInt, rd_pIntS, rd_pIntB, rd_pOrd, rd_pMax, rd_pSplit, rd_pPart, rd_stO, rd_pCutS, rd_solB, rd_pIn1, rd_pNotIn1, rd_pIn2, rd_pIn3, rd_pNotIn2, rd_pNotIn3, rd_pBls, rd_pJoin2, rd_at0, rd_at1, rd_at2, rd_at3, rd_atL, rd_ixL, rd_pRepr, rd_pGt2, rd_pLt2]
  rw [e9]
  simp only [cutS_nat (Nat.le_add_right a 9), l2, l1, SX.split_S (b := [58]) (by simp) (by decide), S_cps, Nat.add_sub_cancel_left, SX.S_len, sSeq, sSet, sIf, sRet, sRetN, sNext, sBreak, sCont, sDrop, sNever, sAsg, sPar, sAug, sApp, sExt, sSetI, sForI, sWhile, sMid, sTry, sRaise, qVar, qC, qOp, qUn, qB, qAnd, qOr, qNot, qAndV, qOrV, qNotV, qIf, qNil, qCons, qCB, qTup, qLst, qCut, qPart, qNo, qM1, qM0, qCall, qChain, qXf, eQ, eVar, eC, eOp, eUn, eIf, eNil, eCons, eCB, eTup, eLst, eO, eCut, eM1, eM0, ePop, eIxV, eAnd, eOr, eNot, eAndV, eOrV, eNotV, eChain, eCutE, eNo, ePart, oSu, iS, tB', tQ, tYes', oE, oLst, oMove, oIf, oCall, oSt, oComp, iL, iT, iR1, iR2, gN, gT, gsNil, gsCons, cNil, cVal, cRef, free_0, free_succ, ends, outs, nils, resolve, putBack, allRef, refs, wipeE, pIsN, pNotN, pEq, pNe, eqOk_ii, eqOk_ss, eqOk_bb, eqOk_ni, eqOk_in, frS_frz, frS_own, frS_nil, List.replicate, List.getElem?_cons_zero, List.getElem?_cons_succ, List.set_cons_zero, List.set_cons_succ, List.cons_append, List.nil_append, List.length_cons, List.length_nil, List.take_succ_cons, List.take_zero, List.map_cons, List.map_nil, true_and, and_true, D.int.injEq, D.str.injEq, D.lst.injEq, decide_eq_true_eq, ite_true, ite_false, if_true, if_false, reduceIte, Bool.false_eq_true, false_and, and_false, Bool.not_true, Bool.not_false, Option.some.injEq, exists_eq_left', exists_eq_left, exists_and_left, List.nodup_cons, List.nodup_nil, List.not_mem_nil, not_false_eq_true, List.mem_cons, or_false, false_or, forall_eq, forall_eq_or_imp, Slot.own.injEq, Slot.par.injEq, Slot.frz.injEq, reduceCtorEq, exists_eq', exists_eq, exists_false, decide_true, decide_false, or_self, false_implies, implies_true, forall_const, eq_self, rd_lkL1, rd_lkL2, rd_lkL3, rd_lkE1, rd_lkE2, rd_thE1, rd_thE2, rd_lkF1, rd_lkX1, rd_lkX2, rd_lkX3, rd_mvS1, rd_mvS2, rd_mvE1, rd_mvE2, rd_lsO1, rd_lsO2, rd_tpO1, rd_sol1, rd_sol2, rd_sol3, rd_sol4, rd_sol5, rd_sol6, rd_sol7, rd_flat1, rd_flat2, rd_flat3, rd_flat4, rd_flat5, rd_asD1, rd_asD2, rd_asQ1, rd_asQ2, rd_asB, rd_asI, rd_p1, rd_p2, rd_pI0, rd_pI2, rd_pU, rd_pAdd1, rd_pAdd2, rd_pAdd3, rd_pAdd4, rd_pMul1, rd_pMul2, rd_pMul3, rd_pLen1, rd_pLen2, rd_pLen3, rd_pInt1, rd_pAbs, rd_pList1, rd_pList2, rd_pList3, rd_pCut1, rd_pCut2, rd_pCut3, rd_non1, rd_non2, rd_non3, rd_non4, rd_non5, rd_non6, rd_isStr, rd_pIx1, rd_pIx2, rd_pIx3, rd_pJoin1, rd_upS1, rd_upS2, rd_out1, rd_out2, rd_out3, rd_out4, rd_asL1, rd_asL2, rd_putL1, rd_putL2, rd_stA, rd_isi1, rd_isi2, rd_isi3, rd_isi4, rd_isX, rd_draw, rd_take, rd_pLt, rd_pLe, rd_pGt, rd_pGe, rd_pTuple1, rd_pTuple2, rd_pStr1, rd_pStr2, rd_pInt, rd_pIntS, rd_pIntB, rd_pOrd, rd_pMax, rd_pSplit, rd_pPart, rd_stO, rd_pCutS, rd_solB, rd_pIn1, rd_pNotIn1, rd_pIn2, rd_pIn3, rd_pNotIn2, rd_pNotIn3, rd_pBls, rd_pJoin2, rd_at0, rd_at1, rd_at2, rd_at3, rd_atL, rd_ixL, rd_pRepr, rd_pGt2, rd_pLt2]
  refine ⟨by omega, rfl, by omega, ?_⟩
  rcases spl1 58 (List.take 9 (List.drop a x)) [] with ⟨hno, e⟩ | ⟨p, q, hw, hp, e⟩
  · rw [e]
    simp only [List.map_cons, List.map_nil, rd_at0, SX.split_S (b := [32]) (by simp) (by decide), S_cps, SX.S_len, hno, sSeq, sSet, sIf, sRet, sRetN, sNext, sBreak, sCont, sDrop, sNever, sAsg, sPar, sAug, sApp, sExt, sSetI, sForI, sWhile, sMid, sTry, sRaise, qVar, qC, qOp, qUn, qB, qAnd, qOr, qNot, qAndV, qOrV, qNotV, qIf, qNil, qCons, qCB, qTup, qLst, qCut, qPart, qNo, qM1, qM0, qCall, qChain, qXf, eQ, eVar, eC, eOp, eUn, eIf, eNil, eCons, eCB, eTup, eLst, eO, eCut, eM1, eM0, ePop, eIxV, eAnd, eOr, eNot, eAndV, eOrV, eNotV, eChain, eCutE, eNo, ePart, oSu, iS, tB', tQ, tYes', oE, oLst, oMove, oIf, oCall, oSt, oComp, iL, iT, iR1, iR2, gN, gT, gsNil, gsCons, cNil, cVal, cRef, free_0, free_succ, ends, outs, nils, resolve, putBack, allRef, refs, wipeE, pIsN, pNotN, pEq, pNe, eqOk_ii, eqOk_ss, eqOk_bb, eqOk_ni, eqOk_in, frS_frz, frS_own, frS_nil, List.replicate, List.getElem?_cons_zero, List.getElem?_cons_succ, List.set_cons_zero, List.set_cons_succ, List.cons_append, List.nil_append, List.length_cons, List.length_nil, List.take_succ_cons, List.take_zero, List.map_cons, List.map_nil, true_and, and_true, D.int.injEq, D.str.injEq, D.lst.injEq, decide_eq_true_eq, ite_true, ite_false, if_true, if_false, reduceIte, Bool.false_eq_true, false_and, and_false, Bool.not_true, Bool.not_false, Option.some.injEq, exists_eq_left', exists_eq_left, exists_and_left, List.nodup_cons, List.nodup_nil, List.not_mem_nil, not_false_eq_true, List.mem_cons, or_false, false_or, forall_eq, forall_eq_or_imp, Slot.own.injEq, Slot.par.injEq, Slot.frz.injEq, reduceCtorEq, exists_eq', exists_eq, exists_false, decide_true, decide_false, or_self, false_implies, implies_true, forall_const, eq_self, rd_lkL1, rd_lkL2, rd_lkL3, rd_lkE1, rd_lkE2, rd_thE1, rd_thE2, rd_lkF1, rd_lkX1, rd_lkX2, rd_lkX3, rd_mvS1, rd_mvS2, rd_mvE1, rd_mvE2, rd_lsO1, rd_lsO2, rd_tpO1, rd_sol1, rd_sol2, rd_sol3, rd_sol4, rd_sol5, rd_sol6, rd_sol7, rd_flat1, rd_flat2, rd_flat3, rd_flat4, rd_flat5, rd_asD1, rd_asD2, rd_asQ1, rd_asQ2, rd_asB, rd_asI, rd_p1, rd_p2, rd_pI0, rd_pI2, rd_pU, rd_pAdd1, rd_pAdd2, rd_pAdd3, rd_pAdd4, rd_pMul1, rd_pMul2, rd_pMul3, rd_pLen1, rd_pLen2, rd_pLen3, rd_pInt1, rd_pAbs, rd_pList1, rd_pList2, rd_pList3, rd_pCut1, rd_pCut2, rd_pCut3, rd_non1, rd_non2, rd_non3, rd_non4, rd_non5, rd_non6, rd_isStr, rd_pIx1, rd_pIx2, rd_pIx3, rd_pJoin1, rd_upS1, rd_upS2, rd_out1, rd_out2, rd_out3, rd_out4, rd_asL1, rd_asL2, rd_putL1, rd_putL2, rd_stA, rd_isi1, rd_isi2, rd_isi3, rd_isi4, rd_isX, rd_draw, rd_take, rd_pLt, rd_pLe, rd_pGt, rd_pGe, rd_pTuple1, rd_pTuple2, rd_pStr1, rd_pStr2, rd_pInt, rd_pIntS, rd_pIntB, rd_pOrd, rd_pMax, rd_pSplit, rd_pPart, rd_stO, rd_pCutS, rd_solB, rd_pIn1, rd_pNotIn1, rd_pIn2, rd_pIn3, rd_pNotIn2, rd_pNotIn3, rd_pBls, rd_pJoin2, rd_at0, rd_at1, rd_at2, rd_at3, rd_atL, rd_ixL, rd_pRepr, rd_pGt2, rd_pLt2]
    refine ⟨rfl, by omega, by omega, hn fun k t h => hno ?_⟩
    obtain ⟨_, _, r, e⟩ := match_w h hdl
    rw [e]
    simp
  · rw [e]
    have h58 : 58 ∈ List.take 9 (List.drop a x) := by rw [hw]; simp
    have hpl : p.length ≤ 8 := by
      have := congrArg List.length hw
      simp only [List.length_append, List.length_cons] at this
      omega
    have F : ∀ k t, Match (List.drop a x) k t → (k = 1 ∨ k = 2 ∨ k = 3) ∧ t.length ≤ 100000 ∧ p = [48 + k, 32] ++ TL.numL t.length ∧ TL.spl [32] 0 [] p = [[48 + k], TL.numL t.length] := by
      intro k t h
      obtain ⟨hk, ht, r, e⟩ := match_w h hdl
      rw [hw] at e
      have h58n : 58 ∉ [48 + k, 32] ++ TL.numL t.length := by
        rw [List.mem_append]
        rintro (z | z)
        · simp at z; omega
        · exact TL.numL_free (.inr (by decide)) z
      obtain ⟨rfl, _⟩ := first_eq hp h58n e
      refine ⟨hk, ht, rfl, ?_⟩
      have a1 := TL.spl_part1 (s := 32) (S := []) (p := [48 + k]) (rest := TL.numL t.length) (acc := []) (by simp; omega)
      rw [TL.spl_last1 (TL.numL_free (.inl (by decide)))] at a1
      exact a1
    simp only [List.map_cons, List.map_nil, rd_at0, SX.split_S (b := [32]) (by simp) (by decide), S_cps, SX.S_len, h58, List.nil_append, List.length_map, sSeq, sSet, sIf, sRet, sRetN, sNext, sBreak, sCont, sDrop, sNever, sAsg, sPar, sAug, sApp, sExt, sSetI, sForI, sWhile, sMid, sTry, sRaise, qVar, qC, qOp, qUn, qB, qAnd, qOr, qNot, qAndV, qOrV, qNotV, qIf, qNil, qCons, qCB, qTup, qLst, qCut, qPart, qNo, qM1, qM0, qCall, qChain, qXf, eQ, eVar, eC, eOp, eUn, eIf, eNil, eCons, eCB, eTup, eLst, eO, eCut, eM1, eM0, ePop, eIxV, eAnd, eOr, eNot, eAndV, eOrV, eNotV, eChain, eCutE, eNo, ePart, oSu, iS, tB', tQ, tYes', oE, oLst, oMove, oIf, oCall, oSt, oComp, iL, iT, iR1, iR2, gN, gT, gsNil, gsCons, cNil, cVal, cRef, free_0, free_succ, ends, outs, nils, resolve, putBack, allRef, refs, wipeE, pIsN, pNotN, pEq, pNe, eqOk_ii, eqOk_ss, eqOk_bb, eqOk_ni, eqOk_in, frS_frz, frS_own, frS_nil, List.replicate, List.getElem?_cons_zero, List.getElem?_cons_succ, List.set_cons_zero, List.set_cons_succ, List.cons_append, List.nil_append, List.length_cons, List.length_nil, List.take_succ_cons, List.take_zero, List.map_cons, List.map_nil, true_and, and_true, D.int.injEq, D.str.injEq, D.lst.injEq, decide_eq_true_eq, ite_true, ite_false, if_true, if_false, reduceIte, Bool.false_eq_true, false_and, and_false, Bool.not_true, Bool.not_false, Option.some.injEq, exists_eq_left', exists_eq_left, exists_and_left, List.nodup_cons, List.nodup_nil, List.not_mem_nil, not_false_eq_true, List.mem_cons, or_false, false_or, forall_eq, forall_eq_or_imp, Slot.own.injEq, Slot.par.injEq, Slot.frz.injEq, reduceCtorEq, exists_eq', exists_eq, exists_false, decide_true, decide_false, or_self, false_implies, implies_true, forall_const, eq_self, rd_lkL1, rd_lkL2, rd_lkL3, rd_lkE1, rd_lkE2, rd_thE1, rd_thE2, rd_lkF1, rd_lkX1, rd_lkX2, rd_lkX3, rd_mvS1, rd_mvS2, rd_mvE1, rd_mvE2, rd_lsO1, rd_lsO2, rd_tpO1, rd_sol1, rd_sol2, rd_sol3, rd_sol4, rd_sol5, rd_sol6, rd_sol7, rd_flat1, rd_flat2, rd_flat3, rd_flat4, rd_flat5, rd_asD1, rd_asD2, rd_asQ1, rd_asQ2, rd_asB, rd_asI, rd_p1, rd_p2, rd_pI0, rd_pI2, rd_pU, rd_pAdd1, rd_pAdd2, rd_pAdd3, rd_pAdd4, rd_pMul1, rd_pMul2, rd_pMul3, rd_pLen1, rd_pLen2, rd_pLen3, rd_pInt1, rd_pAbs, rd_pList1, rd_pList2, rd_pList3, rd_pCut1, rd_pCut2, rd_pCut3, rd_non1, rd_non2, rd_non3, rd_non4, rd_non5, rd_non6, rd_isStr, rd_pIx1, rd_pIx2, rd_pIx3, rd_pJoin1, rd_upS1, rd_upS2, rd_out1, rd_out2, rd_out3, rd_out4, rd_asL1, rd_asL2, rd_putL1, rd_putL2, rd_stA, rd_isi1, rd_isi2, rd_isi3, rd_isi4, rd_isX, rd_draw, rd_take, rd_pLt, rd_pLe, rd_pGt, rd_pGe, rd_pTuple1, rd_pTuple2, rd_pStr1, rd_pStr2, rd_pInt, rd_pIntS, rd_pIntB, rd_pOrd, rd_pMax, rd_pSplit, rd_pPart, rd_stO, rd_pCutS, rd_solB, rd_pIn1, rd_pNotIn1, rd_pIn2, rd_pIn3, rd_pNotIn2, rd_pNotIn3, rd_pBls, rd_pJoin2, rd_at0, rd_at1, rd_at2, rd_at3, rd_atL, rd_ixL, rd_pRepr, rd_pGt2, rd_pLt2]
    refine ⟨rfl, by omega, by omega, ?_⟩
    by_cases h2 : (TL.spl [32] 0 [] p).length = 2
    · obtain ⟨w0, w1, hpe, _, _, he⟩ := spl1_two h2
      rw [he] at F ⊢
      have hw1 : w1.length ≤ 8 := by rw [hpe] at hpl; simp at hpl; omega
      simp only [List.length_cons, List.length_nil, List.map_cons, List.map_nil, rd_at0, rd_at1, k_kinds, k1, k2, k3, D.str.injEq, S_inj, sSeq, sSet, sIf, sRet, sRetN, sNext, sBreak, sCont, sDrop, sNever, sAsg, sPar, sAug, sApp, sExt, sSetI, sForI, sWhile, sMid, sTry, sRaise, qVar, qC, qOp, qUn, qB, qAnd, qOr, qNot, qAndV, qOrV, qNotV, qIf, qNil, qCons, qCB, qTup, qLst, qCut, qPart, qNo, qM1, qM0, qCall, qChain, qXf, eQ, eVar, eC, eOp, eUn, eIf, eNil, eCons, eCB, eTup, eLst, eO, eCut, eM1, eM0, ePop, eIxV, eAnd, eOr, eNot, eAndV, eOrV, eNotV, eChain, eCutE, eNo, ePart, oSu, iS, tB', tQ, tYes', oE, oLst, oMove, oIf, oCall, oSt, oComp, iL, iT, iR1, iR2, gN, gT, gsNil, gsCons, cNil, cVal, cRef, free_0, free_succ, ends, outs, nils, resolve, putBack, allRef, refs, wipeE, pIsN, pNotN, pEq, pNe, eqOk_ii, eqOk_ss, eqOk_bb, eqOk_ni, eqOk_in, frS_frz, frS_own, frS_nil, List.replicate, List.getElem?_cons_zero, List.getElem?_cons_succ, List.set_cons_zero, List.set_cons_succ, List.cons_append, List.nil_append, List.length_cons, List.length_nil, List.take_succ_cons, List.take_zero, List.map_cons, List.map_nil, true_and, and_true, D.int.injEq, D.str.injEq, D.lst.injEq, decide_eq_true_eq, ite_true, ite_false, if_true, if_false, reduceIte, Bool.false_eq_true, false_and, and_false, Bool.not_true, Bool.not_false, Option.some.injEq, exists_eq_left', exists_eq_left, exists_and_left, List.nodup_cons, List.nodup_nil, List.not_mem_nil, not_false_eq_true, List.mem_cons, or_false, false_or, forall_eq, forall_eq_or_imp, Slot.own.injEq, Slot.par.injEq, Slot.frz.injEq, reduceCtorEq, exists_eq', exists_eq, exists_false, decide_true, decide_false, or_self, false_implies, implies_true, forall_const, eq_self, rd_lkL1, rd_lkL2, rd_lkL3, rd_lkE1, rd_lkE2, rd_thE1, rd_thE2, rd_lkF1, rd_lkX1, rd_lkX2, rd_lkX3, rd_mvS1, rd_mvS2, rd_mvE1, rd_mvE2, rd_lsO1, rd_lsO2, rd_tpO1, rd_sol1, rd_sol2, rd_sol3, rd_sol4, rd_sol5, rd_sol6, rd_sol7, rd_flat1, rd_flat2, rd_flat3, rd_flat4, rd_flat5, rd_asD1, rd_asD2, rd_asQ1, rd_asQ2, rd_asB, rd_asI, rd_p1, rd_p2, rd_pI0, rd_pI2, rd_pU, rd_pAdd1, rd_pAdd2, rd_pAdd3, rd_pAdd4, rd_pMul1, rd_pMul2, rd_pMul3, rd_pLen1, rd_pLen2, rd_pLen3, rd_pInt1, rd_pAbs, rd_pList1, rd_pList2, rd_pList3, rd_pCut1, rd_pCut2, rd_pCut3, rd_non1, rd_non2, rd_non3, rd_non4, rd_non5, rd_non6, rd_isStr, rd_pIx1, rd_pIx2, rd_pIx3, rd_pJoin1, rd_upS1, rd_upS2, rd_out1, rd_out2, rd_out3, rd_out4, rd_asL1, rd_asL2, rd_putL1, rd_putL2, rd_stA, rd_isi1, rd_isi2, rd_isi3, rd_isi4, rd_isX, rd_draw, rd_take, rd_pLt, rd_pLe, rd_pGt, rd_pGe, rd_pTuple1, rd_pTuple2, rd_pStr1, rd_pStr2, rd_pInt, rd_pIntS, rd_pIntB, rd_pOrd, rd_pMax, rd_pSplit, rd_pPart, rd_stO, rd_pCutS, rd_solB, rd_pIn1, rd_pNotIn1, rd_pIn2, rd_pIn3, rd_pNotIn2, rd_pNotIn3, rd_pBls, rd_pJoin2, rd_at0, rd_at1, rd_at2, rd_at3, rd_atL, rd_ixL, rd_pRepr, rd_pGt2, rd_pLt2]
      rw [if_neg (by simp)]
      have okc : ∀ c, c < 128 → okStr (SX.S [c]) = true := fun c hc => okStr_of fun d hd => by
        have : d = c := by simpa [TL.tl] using hd
        omega
      have ok0 : okStr (SX.S w0) = true := okStr_of fun d hd => by
        refine hc8 d (List.mem_of_mem_drop (i := a) (List.mem_of_mem_take (i := 9) ?_))
        rw [hw, hpe]
        have hd' : d ∈ w0 := hd
        simp [hd']
      refine ⟨inOk_ok (ok_str.mpr ok0) (by
        intro d hd
        simp only [List.mem_cons, List.not_mem_nil, or_false] at hd
        rcases hd with rfl | rfl | rfl
        · exact ok_str.mpr (okc _ (by omega))
        · exact ok_str.mpr (okc _ (by omega))
        · exact ok_str.mpr (okc _ (by omega))), ?_⟩
      by_cases hk : w0 = [49] ∨ w0 = [50] ∨ w0 = [51]
      · rw [decide_eq_true hk]
        simp only [c_num, S_cps, SX.S_len, sSeq, sSet, sIf, sRet, sRetN, sNext, sBreak, sCont, sDrop, sNever, sAsg, sPar, sAug, sApp, sExt, sSetI, sForI, sWhile, sMid, sTry, sRaise, qVar, qC, qOp, qUn, qB, qAnd, qOr, qNot, qAndV, qOrV, qNotV, qIf, qNil, qCons, qCB, qTup, qLst, qCut, qPart, qNo, qM1, qM0, qCall, qChain, qXf, eQ, eVar, eC, eOp, eUn, eIf, eNil, eCons, eCB, eTup, eLst, eO, eCut, eM1, eM0, ePop, eIxV, eAnd, eOr, eNot, eAndV, eOrV, eNotV, eChain, eCutE, eNo, ePart, oSu, iS, tB', tQ, tYes', oE, oLst, oMove, oIf, oCall, oSt, oComp, iL, iT, iR1, iR2, gN, gT, gsNil, gsCons, cNil, cVal, cRef, free_0, free_succ, ends, outs, nils, resolve, putBack, allRef, refs, wipeE, pIsN, pNotN, pEq, pNe, eqOk_ii, eqOk_ss, eqOk_bb, eqOk_ni, eqOk_in, frS_frz, frS_own, frS_nil, List.replicate, List.getElem?_cons_zero, List.getElem?_cons_succ, List.set_cons_zero, List.set_cons_succ, List.cons_append, List.nil_append, List.length_cons, List.length_nil, List.take_succ_cons, List.take_zero, List.map_cons, List.map_nil, true_and, and_true, D.int.injEq, D.str.injEq, D.lst.injEq, decide_eq_true_eq, ite_true, ite_false, if_true, if_false, reduceIte, Bool.false_eq_true, false_and, and_false, Bool.not_true, Bool.not_false, Option.some.injEq, exists_eq_left', exists_eq_left, exists_and_left, List.nodup_cons, List.nodup_nil, List.not_mem_nil, not_false_eq_true, List.mem_cons, or_false, false_or, forall_eq, forall_eq_or_imp, Slot.own.injEq, Slot.par.injEq, Slot.frz.injEq, reduceCtorEq, exists_eq', exists_eq, exists_false, decide_true, decide_false, or_self, false_implies, implies_true, forall_const, eq_self, rd_lkL1, rd_lkL2, rd_lkL3, rd_lkE1, rd_lkE2, rd_thE1, rd_thE2, rd_lkF1, rd_lkX1, rd_lkX2, rd_lkX3, rd_mvS1, rd_mvS2, rd_mvE1, rd_mvE2, rd_lsO1, rd_lsO2, rd_tpO1, rd_sol1, rd_sol2, rd_sol3, rd_sol4, rd_sol5, rd_sol6, rd_sol7, rd_flat1, rd_flat2, rd_flat3, rd_flat4, rd_flat5, rd_asD1, rd_asD2, rd_asQ1, rd_asQ2, rd_asB, rd_asI, rd_p1, rd_p2, rd_pI0, rd_pI2, rd_pU, rd_pAdd1, rd_pAdd2, rd_pAdd3, rd_pAdd4, rd_pMul1, rd_pMul2, rd_pMul3, rd_pLen1, rd_pLen2, rd_pLen3, rd_pInt1, rd_pAbs, rd_pList1, rd_pList2, rd_pList3, rd_pCut1, rd_pCut2, rd_pCut3, rd_non1, rd_non2, rd_non3, rd_non4, rd_non5, rd_non6, rd_isStr, rd_pIx1, rd_pIx2, rd_pIx3, rd_pJoin1, rd_upS1, rd_upS2, rd_out1, rd_out2, rd_out3, rd_out4, rd_asL1, rd_asL2, rd_putL1, rd_putL2, rd_stA, rd_isi1, rd_isi2, rd_isi3, rd_isi4, rd_isX, rd_draw, rd_take, rd_pLt, rd_pLe, rd_pGt, rd_pGe, rd_pTuple1, rd_pTuple2, rd_pStr1, rd_pStr2, rd_pInt, rd_pIntS, rd_pIntB, rd_pOrd, rd_pMax, rd_pSplit, rd_pPart, rd_stO, rd_pCutS, rd_solB, rd_pIn1, rd_pNotIn1, rd_pIn2, rd_pIn3, rd_pNotIn2, rd_pNotIn3, rd_pBls, rd_pJoin2, rd_at0, rd_at1, rd_at2, rd_at3, rd_atL, rd_ixL, rd_pRepr, rd_pGt2, rd_pLt2]
        refine ⟨by omega, ?_⟩
        by_cases h1 : isNum w1 = true
        · obtain ⟨n1, n2, n3, n4⟩ := isNum_ok h1
          have hv := int_digits n3 n1 (by omega)
          have hb := numL_back _ w1 rfl n3 n1 n4
          generalize NumText.digitsVal w1 = n at *
          obtain ⟨k, hk3, hw0⟩ : ∃ k, (k = 1 ∨ k = 2 ∨ k = 3) ∧ w0 = [48 + k] := by
            rcases hk with rfl | rfl | rfl
            · exact ⟨1, by omega, rfl⟩
            · exact ⟨2, by omega, rfl⟩
            · exact ⟨3, by omega, rfl⟩
          have ei : (a : Int) + p.length + 1 + n = ((a + (p.length + 1 + n) : Nat) : Int) := by omega
          have ct := cutS_nat (z := SX.S x) (Nat.le_add_right a (p.length + 1 + n))
          rw [S_cps, Nat.add_sub_cancel_left] at ct
          have cl := chk_lt (List.take (p.length + 1 + n) (List.drop a x))
          have c10 := num10 cl
          rw [h1]
          simp only [hv, Option.some.injEq, exists_eq_left', ei, ct, c_chk, S_cps, SX.S_len, str_num, l3, S_app, sSeq, sSet, sIf, sRet, sRetN, sNext, sBreak, sCont, sDrop, sNever, sAsg, sPar, sAug, sApp, sExt, sSetI, sForI, sWhile, sMid, sTry, sRaise, qVar, qC, qOp, qUn, qB, qAnd, qOr, qNot, qAndV, qOrV, qNotV, qIf, qNil, qCons, qCB, qTup, qLst, qCut, qPart, qNo, qM1, qM0, qCall, qChain, qXf, eQ, eVar, eC, eOp, eUn, eIf, eNil, eCons, eCB, eTup, eLst, eO, eCut, eM1, eM0, ePop, eIxV, eAnd, eOr, eNot, eAndV, eOrV, eNotV, eChain, eCutE, eNo, ePart, oSu, iS, tB', tQ, tYes', oE, oLst, oMove, oIf, oCall, oSt, oComp, iL, iT, iR1, iR2, gN, gT, gsNil, gsCons, cNil, cVal, cRef, free_0, free_succ, ends, outs, nils, resolve, putBack, allRef, refs, wipeE, pIsN, pNotN, pEq, pNe, eqOk_ii, eqOk_ss, eqOk_bb, eqOk_ni, eqOk_in, frS_frz, frS_own, frS_nil, List.replicate, List.getElem?_cons_zero, List.getElem?_cons_succ, List.set_cons_zero, List.set_cons_succ, List.cons_append, List.nil_append, List.length_cons, List.length_nil, List.take_succ_cons, List.take_zero, List.map_cons, List.map_nil, true_and, and_true, D.int.injEq, D.str.injEq, D.lst.injEq, decide_eq_true_eq, ite_true, ite_false, if_true, if_false, reduceIte, Bool.false_eq_true, false_and, and_false, Bool.not_true, Bool.not_false, Option.some.injEq, exists_eq_left', exists_eq_left, exists_and_left, List.nodup_cons, List.nodup_nil, List.not_mem_nil, not_false_eq_true, List.mem_cons, or_false, false_or, forall_eq, forall_eq_or_imp, Slot.own.injEq, Slot.par.injEq, Slot.frz.injEq, reduceCtorEq, exists_eq', exists_eq, exists_false, decide_true, decide_false, or_self, false_implies, implies_true, forall_const, eq_self, rd_lkL1, rd_lkL2, rd_lkL3, rd_lkE1, rd_lkE2, rd_thE1, rd_thE2, rd_lkF1, rd_lkX1, rd_lkX2, rd_lkX3, rd_mvS1, rd_mvS2, rd_mvE1, rd_mvE2, rd_lsO1, rd_lsO2, rd_tpO1, rd_sol1, rd_sol2, rd_sol3, rd_sol4, rd_sol5, rd_sol6, rd_sol7, rd_flat1, rd_flat2, rd_flat3, rd_flat4, rd_flat5, rd_asD1, rd_asD2, rd_asQ1, rd_asQ2, rd_asB, rd_asI, rd_p1, rd_p2, rd_pI0, rd_pI2, rd_pU, rd_pAdd1, rd_pAdd2, rd_pAdd3, rd_pAdd4, rd_pMul1, rd_pMul2, rd_pMul3, rd_pLen1, rd_pLen2, rd_pLen3, rd_pInt1, rd_pAbs, rd_pList1, rd_pList2, rd_pList3, rd_pCut1, rd_pCut2, rd_pCut3, rd_non1, rd_non2, rd_non3, rd_non4, rd_non5, rd_non6, rd_isStr, rd_pIx1, rd_pIx2, rd_pIx3, rd_pJoin1, rd_upS1, rd_upS2, rd_out1, rd_out2, rd_out3, rd_out4, rd_asL1, rd_asL2, rd_putL1, rd_putL2, rd_stA, rd_isi1, rd_isi2, rd_isi3, rd_isi4, rd_isX, rd_draw, rd_take, rd_pLt, rd_pLe, rd_pGt, rd_pGe, rd_pTuple1, rd_pTuple2, rd_pStr1, rd_pStr2, rd_pInt, rd_pIntS, rd_pIntB, rd_pOrd, rd_pMax, rd_pSplit, rd_pPart, rd_stO, rd_pCutS, rd_solB, rd_pIn1, rd_pNotIn1, rd_pIn2, rd_pIn3, rd_pNotIn2, rd_pNotIn3, rd_pBls, rd_pJoin2, rd_at0, rd_at1, rd_at2, rd_at3, rd_atL, rd_ixL, rd_pRepr, rd_pGt2, rd_pLt2]
          have ej : ((a + (p.length + 1 + n) : Nat) : Int) + (((TL.numL (chk (List.take (p.length + 1 + n) (List.drop a x))) ++ [59]).length + 1 : Nat) : Int) = ((a + (p.length + 1 + n) + ((TL.numL (chk (List.take (p.length + 1 + n) (List.drop a x))) ++ [59]).length + 1) : Nat) : Int) := by omega
          have ei2 : (a : Int) + p.length + 1 = ((a + (p.length + 1) : Nat) : Int) := by omega
          rw [ej, ei2]
          have cl2 : (TL.numL (chk (List.take (p.length + 1 + n) (List.drop a x))) ++ [59]).length ≤ 11 := by
            rw [List.length_append, List.length_cons, List.length_nil]
            omega
          have cl3 : (List.take (p.length + 1 + n) (List.drop a x)).length ≤ 100000 := by rw [List.length_take]; omega
          have ct2 := cutS_nat (z := SX.S x) (Nat.le_add_right (a + (p.length + 1 + n)) ((TL.numL (chk (List.take (p.length + 1 + n) (List.drop a x))) ++ [59]).length + 1))
          have ct3 := cutS_nat (z := SX.S x) (show a + (p.length + 1) ≤ a + (p.length + 1 + n) by omega)
          rw [S_cps, Nat.add_sub_cancel_left] at ct2
          rw [S_cps, show a + (p.length + 1 + n) - (a + (p.length + 1)) = n by omega] at ct3
          rw [ct2, ct3]
          have nl := nat_log (n := chk (List.take (p.length + 1 + n) (List.drop a x))) (by omega)
          have hlw : List.drop a x = p ++ 58 :: (q ++ (List.drop a x).drop 9) := by
            conv => lhs; rw [← List.take_append_drop 9 (List.drop a x), hw]
            simp only [List.append_assoc, List.cons_append]
          have hd1 : List.drop (a + (p.length + 1 + n)) x = (List.drop a x).drop (p.length + 1 + n) := by rw [List.drop_drop]
          have hd2 : List.drop (a + (p.length + 1)) x = (List.drop a x).drop (p.length + 1) := by rw [List.drop_drop]
          rw [hd1, hd2]
          have hiw : PySem.intText? (SX.S w0) = some ((k : Nat) : Int) := by
            rw [hw0, int_digits (by simp; omega) (by simp) (by simp)]
            simp [NumText.digitsVal]
          have hpk : p = [48 + k, 32] ++ TL.numL n := by rw [hpe, hw0, hb]; rfl
          clear hv
          generalize List.drop a x = l at *
          have tf : 58 :: (TL.numL (chk (List.take (p.length + 1 + n) l)) ++ [59]) = tailL (l.take (p.length + 1 + n)) := rfl
          have tfl : (TL.numL (chk (List.take (p.length + 1 + n) l)) ++ [59]).length + 1 = (tailL (l.take (p.length + 1 + n))).length := rfl
          rw [tf, tfl]
          have tl12 : (tailL (l.take (p.length + 1 + n))).length ≤ 12 := by rw [← tfl]; omega
          rw [List.length_append, List.length_cons, List.length_nil] at cl2
          refine ⟨by omega, by omega, by omega, by omega, nl, by omega, by omega, by omega, by omega, ?_⟩
          by_cases ht : (l.drop (p.length + 1 + n)).take (tailL (l.take (p.length + 1 + n))).length = tailL (l.take (p.length + 1 + n))
          · obtain ⟨t, hmt, htt, hrl⟩ := match_mk hk3 hlw hpk ht
            rw [if_neg (by rw [ht]; simp)]
            have := hm k t hmt
            rw [htt]
            rw [show a + (recL k t).length = a + (p.length + 1 + n) + (tailL (l.take (p.length + 1 + n))).length by omega] at this
            refine ⟨_, hiw, by rw [hw0]; simp, by omega, by omega, by omega, this⟩
          · rw [if_pos (by rw [Bool.not_eq_true', decide_eq_false_iff_not, S_inj]; exact ht)]
            refine hn fun k' t' h => ht ?_
            obtain ⟨hk', ht', e1, e2'⟩ := F k' t' h
            simp only [List.cons.injEq, and_true] at e2'
            have en : n = t'.length := TL.numL_inj (by rw [hb, e2'.2])
            exact match_un h (by rw [e1, en]) en
        · rw [Bool.not_eq_true] at h1
          rw [h1]
          refine hn fun k t h => ?_
          obtain ⟨_, ht, _, e⟩ := F k t h
          simp only [List.cons.injEq, and_true] at e
          rw [e.2, isNum_num ht] at h1
          cases h1
      · rw [decide_eq_false hk]
        refine hn fun k t h => hk ?_
        obtain ⟨hk3, _, _, e⟩ := F k t h
        simp only [List.cons.injEq, and_true] at e
        rw [e.1]
        rcases hk3 with rfl | rfl | rfl
        · exact .inl rfl
        · exact .inr (.inl rfl)
        · exact .inr (.inr rfl)
    · rw [show (decide (((TL.spl [32] 0 [] p).length : Int) = 2)) = false from decide_eq_false (by omega)]
      exact hn fun k t h => h2 (by rw [(F k t h).2.2.2]; rfl)
theorem z0 : D.int 0 = D.int ((0 : Nat) : Int) := rfl
/-- what was read at a place -/
inductive Told (l : List Nat) (a : Nat) : D → Prop where
  | yes {k : Nat} {t : List Nat} (h : Match l k t) : Told l a (.tup [.int k, .str (SX.S t), .int (a + (recL k t).length : Nat)])
  | no (h : ∀ k t, ¬ Match l k t) : Told l a .non
theorem c_told {x : List Nat} {a : Nat} {Q : Pu.Slot → Pu.Env → Prop} {X : XP} (hl : x.length ≤ 100000) (hc : ∀ c ∈ x, c < 128) (h : ∀ d, Told (x.drop a) a d → Q (.frz d) [.nil, .nil]) : ps_read_record [.frz (.str (SX.S x)), .frz (.int a)] Q X :=
  c_read.mpr ⟨by rw [SX.S_len]; exact hl, by rw [S_cps]; exact hc, fun k t m => h _ (.yes (by rw [S_cps] at m; exact m)), fun m => h _ (.no (by rw [S_cps] at m; exact m))⟩
def I_reads (x : List Nat) (m : Nat) (env : Pu.Env) : Prop := ∃ (rs : List (Nat × List Nat)) (a : Nat) (o : D) (x4 x5 : Pu.Slot), env = [.frz (.str (SX.S x)), .own (.lst (rs.map recD)), .frz (.int a), .frz o, x4, x5] ∧ frS x4 = true ∧ frS x5 = true ∧ m = x.length - a ∧ a ≤ x.length ∧ rs.length ≤ a ∧ Told (x.drop a) a o ∧
  ∀ rs' n, Reads (x.drop a) rs' n → Reads x (rs ++ rs') (a + n)
theorem match_len {l t : List Nat} {k : Nat} (h : Match l k t) : (recL k t).length ≤ l.length ∧ 7 ≤ (recL k t).length := by
  refine ⟨h.2.length_le, ?_⟩
  have h1 := TL.numL_ne t.length
  have h2 := TL.numL_ne (chk (bodyL k t))
  have h3 := List.length_pos_iff.mpr h1
  have h4 := List.length_pos_iff.mpr h2
  have h5 := num1 (show k ≤ 9 by have := h.1; omega)
  unfold recL
  simp only [List.length_append, List.length_cons, List.length_nil, body_len]
  omega
theorem told_next {x : List Nat} {rs : List (Nat × List Nat)} {a k : Nat} {t : List Nat} (h : Match (x.drop a) k t) (hr : ∀ rs' n, Reads (x.drop a) rs' n → Reads x (rs ++ rs') (a + n)) : ∀ rs' n, Reads (x.drop (a + (recL k t).length)) rs' n → Reads x ((rs ++ [(k, t)]) ++ rs') (a + (recL k t).length + n) := by
  intro rs' n h'
  rw [← List.drop_drop] at h'
  have := hr _ _ (.cons h h')
  rw [List.append_assoc, Nat.add_assoc]
  exact this
theorem pp_read_records : ∀ as Q X, ps_read_records as Q X → p_read_records (ends 1 Q) (as ++ nils (6 - as.length)) := by
  rintro as Q X ⟨x, rfl, hl, hc8, h⟩
  obtain ⟨x, rfl⟩ : ∃ T, x = SX.S T := ⟨_, S_of x⟩
  simp only [S_cps, SX.S_len] at hl hc8 h
  have e2 := big
  simp only [p_read_records, sSeq, sSet, sIf, sRet, sRetN, sNext, sBreak, sCont, sDrop, sNever, sAsg, sPar, sAug, sApp, sExt, sSetI, sForI, sWhile, sMid, sTry, sRaise, qVar, qC, qOp, qUn, qB, qAnd, qOr, qNot, qAndV, qOrV, qNotV, qIf, qNil, qCons, qCB, qTup, qLst, qCut, qPart, qNo, qM1, qM0, qCall, qChain, qXf, eQ, eVar, eC, eOp, eUn, eIf, eNil, eCons, eCB, eTup, eLst, eO, eCut, eM1, eM0, ePop, eIxV, eAnd, eOr, eNot, eAndV, eOrV, eNotV, eChain, eCutE, eNo, ePart, oSu, iS, tB', tQ, tYes', oE, oLst, oMove, oIf, oCall, oSt, oComp, iL, iT, iR1, iR2, gN, gT, gsNil, gsCons, cNil, cVal, cRef, free_0, free_succ, ends, outs, nils, resolve, putBack, allRef, refs, wipeE, pIsN, pNotN, pEq, pNe, eqOk_ii, eqOk_ss, eqOk_bb, eqOk_ni, eqOk_in, frS_frz, frS_own, frS_nil, List.replicate, List.getElem?_cons_zero, List.getElem?_cons_succ, List.set_cons_zero, List.set_cons_succ, List.cons_append, List.nil_append, List.length_cons, List.length_nil, List.take_succ_cons, List.take_zero, List.map_cons, List.map_nil, true_and, and_true, D.int.injEq, D.str.injEq, D.lst.injEq, decide_eq_true_eq, ite_true, ite_false, if_true, if_false, reduceIte, Bool.false_eq_true, false_and, and_false, Bool.not_true, Bool.not_false, Option.some.injEq, exists_eq_left', exists_eq_left, exists_and_left, List.nodup_cons, List.nodup_nil, List.not_mem_nil, not_false_eq_true, List.mem_cons, or_false, false_or, forall_eq, forall_eq_or_imp, Slot.own.injEq, Slot.par.injEq, Slot.frz.injEq, reduceCtorEq, exists_eq', exists_eq, exists_false, decide_true, decide_false, or_self, false_implies, implies_true, forall_const, eq_self, rd_lkL1, rd_lkL2, rd_lkL3, rd_lkE1, rd_lkE2, rd_thE1, rd_thE2, rd_lkF1, rd_lkX1, rd_lkX2, rd_lkX3, rd_mvS1, rd_mvS2, rd_mvE1, rd_mvE2, rd_lsO1, rd_lsO2, rd_tpO1, rd_sol1, rd_sol2, rd_sol3, rd_sol4, rd_sol5, rd_sol6, rd_sol7, rd_flat1, rd_flat2, rd_flat3, rd_flat4, rd_flat5, rd_asD1, rd_asD2, rd_asQ1, rd_asQ2, rd_asB, rd_asI, rd_p1, rd_p2, rd_pI0, rd_pI2, rd_pU, rd_pAdd1, rd_pAdd2, rd_pAdd3, rd_pAdd4, rd_pMul1, rd_pMul2, rd_pMul3, rd_pLen1, rd_pLen2, rd_pLen3, rd_pInt1, rd_pAbs, rd_pList1, rd_pList2, rd_pList3, rd_pCut1, rd_pCut2, rd_pCut3, rd_non1, rd_non2, rd_non3, rd_non4, rd_non5, rd_non6, rd_isStr, rd_pIx1, rd_pIx2, rd_pIx3, rd_pJoin1, rd_upS1, rd_upS2, rd_out1, rd_out2, rd_out3, rd_out4, rd_asL1, rd_asL2, rd_putL1, rd_putL2, rd_stA, rd_isi1, rd_isi2, rd_isi3, rd_isi4, rd_isX, rd_draw, rd_take, rd_pLt, rd_pLe, rd_pGt, rd_pGe, rd_pTuple1, rd_pTuple2, rd_pStr1, rd_pStr2, rd_pInt, rd_pIntS, rd_pIntB, rd_pOrd, rd_pMax, rd_pSplit, rd_pPart, rd_stO, rd_pCutS, rd_solB, rd_pIn1, rd_pNotIn1, rd_pIn2, rd_pIn3, rd_pNotIn2, rd_pNotIn3, rd_pBls, rd_pJoin2, rd_at0, rd_at1, rd_at2, rd_at3, rd_atL, rd_ixL, rd_pRepr, rd_pGt2, rd_pLt2]
  rw [z0]
  refine ⟨by omega, c_told hl hc8 fun o ho => ?_⟩
  simp only [sSeq, sSet, sIf, sRet, sRetN, sNext, sBreak, sCont, sDrop, sNever, sAsg, sPar, sAug, sApp, sExt, sSetI, sForI, sWhile, sMid, sTry, sRaise, qVar, qC, qOp, qUn, qB, qAnd, qOr, qNot, qAndV, qOrV, qNotV, qIf, qNil, qCons, qCB, qTup, qLst, qCut, qPart, qNo, qM1, qM0, qCall, qChain, qXf, eQ, eVar, eC, eOp, eUn, eIf, eNil, eCons, eCB, eTup, eLst, eO, eCut, eM1, eM0, ePop, eIxV, eAnd, eOr, eNot, eAndV, eOrV, eNotV, eChain, eCutE, eNo, ePart, oSu, iS, tB', tQ, tYes', oE, oLst, oMove, oIf, oCall, oSt, oComp, iL, iT, iR1, iR2, gN, gT, gsNil, gsCons, cNil, cVal, cRef, free_0, free_succ, ends, outs, nils, resolve, putBack, allRef, refs, wipeE, pIsN, pNotN, pEq, pNe, eqOk_ii, eqOk_ss, eqOk_bb, eqOk_ni, eqOk_in, frS_frz, frS_own, frS_nil, List.replicate, List.getElem?_cons_zero, List.getElem?_cons_succ, List.set_cons_zero, List.set_cons_succ, List.cons_append, List.nil_append, List.length_cons, List.length_nil, List.take_succ_cons, List.take_zero, List.map_cons, List.map_nil, true_and, and_true, D.int.injEq, D.str.injEq, D.lst.injEq, decide_eq_true_eq, ite_true, ite_false, if_true, if_false, reduceIte, Bool.false_eq_true, false_and, and_false, Bool.not_true, Bool.not_false, Option.some.injEq, exists_eq_left', exists_eq_left, exists_and_left, List.nodup_cons, List.nodup_nil, List.not_mem_nil, not_false_eq_true, List.mem_cons, or_false, false_or, forall_eq, forall_eq_or_imp, Slot.own.injEq, Slot.par.injEq, Slot.frz.injEq, reduceCtorEq, exists_eq', exists_eq, exists_false, decide_true, decide_false, or_self, false_implies, implies_true, forall_const, eq_self, rd_lkL1, rd_lkL2, rd_lkL3, rd_lkE1, rd_lkE2, rd_thE1, rd_thE2, rd_lkF1, rd_lkX1, rd_lkX2, rd_lkX3, rd_mvS1, rd_mvS2, rd_mvE1, rd_mvE2, rd_lsO1, rd_lsO2, rd_tpO1, rd_sol1, rd_sol2, rd_sol3, rd_sol4, rd_sol5, rd_sol6, rd_sol7, rd_flat1, rd_flat2, rd_flat3, rd_flat4, rd_flat5, rd_asD1, rd_asD2, rd_asQ1, rd_asQ2, rd_asB, rd_asI, rd_p1, rd_p2, rd_pI0, rd_pI2, rd_pU, rd_pAdd1, rd_pAdd2, rd_pAdd3, rd_pAdd4, rd_pMul1, rd_pMul2, rd_pMul3, rd_pLen1, rd_pLen2, rd_pLen3, rd_pInt1, rd_pAbs, rd_pList1, rd_pList2, rd_pList3, rd_pCut1, rd_pCut2, rd_pCut3, rd_non1, rd_non2, rd_non3, rd_non4, rd_non5, rd_non6, rd_isStr, rd_pIx1, rd_pIx2, rd_pIx3, rd_pJoin1, rd_upS1, rd_upS2, rd_out1, rd_out2, rd_out3, rd_out4, rd_asL1, rd_asL2, rd_putL1, rd_putL2, rd_stA, rd_isi1, rd_isi2, rd_isi3, rd_isi4, rd_isX, rd_draw, rd_take, rd_pLt, rd_pLe, rd_pGt, rd_pGe, rd_pTuple1, rd_pTuple2, rd_pStr1, rd_pStr2, rd_pInt, rd_pIntS, rd_pIntB, rd_pOrd, rd_pMax, rd_pSplit, rd_pPart, rd_stO, rd_pCutS, rd_solB, rd_pIn1, rd_pNotIn1, rd_pIn2, rd_pIn3, rd_pNotIn2, rd_pNotIn3, rd_pBls, rd_pJoin2, rd_at0, rd_at1, rd_at2, rd_at3, rd_atL, rd_ixL, rd_pRepr, rd_pGt2, rd_pLt2]
  refine ⟨I_reads x, ⟨x.length, [], 0, o, .nil, .nil, rfl, rfl, rfl, by omega, by omega, by simp, ho, by simp⟩, ?_⟩
  rintro m env ⟨rs, a, o, x4, x5, rfl, h4, h5, rfl, ha, hrl, ho, hr⟩
  cases ho with
  | no hno =>
    simp only [sSeq, sSet, sIf, sRet, sRetN, sNext, sBreak, sCont, sDrop, sNever, sAsg, sPar, sAug, sApp, sExt, sSetI, sForI, sWhile, sMid, sTry, sRaise, qVar, qC, qOp, qUn, qB, qAnd, qOr, qNot, qAndV, qOrV, qNotV, qIf, qNil, qCons, qCB, qTup, qLst, qCut, qPart, qNo, qM1, qM0, qCall, qChain, qXf, eQ, eVar, eC, eOp, eUn, eIf, eNil, eCons, eCB, eTup, eLst, eO, eCut, eM1, eM0, ePop, eIxV, eAnd, eOr, eNot, eAndV, eOrV, eNotV, eChain, eCutE, eNo, ePart, oSu, iS, tB', tQ, tYes', oE, oLst, oMove, oIf, oCall, oSt, oComp, iL, iT, iR1, iR2, gN, gT, gsNil, gsCons, cNil, cVal, cRef, free_0, free_succ, ends, outs, nils, resolve, putBack, allRef, refs, wipeE, pIsN, pNotN, pEq, pNe, eqOk_ii, eqOk_ss, eqOk_bb, eqOk_ni, eqOk_in, frS_frz, frS_own, frS_nil, List.replicate, List.getElem?_cons_zero, List.getElem?_cons_succ, List.set_cons_zero, List.set_cons_succ, List.cons_append, List.nil_append, List.length_cons, List.length_nil, List.take_succ_cons, List.take_zero, List.map_cons, List.map_nil, true_and, and_true, D.int.injEq, D.str.injEq, D.lst.injEq, decide_eq_true_eq, ite_true, ite_false, if_true, if_false, reduceIte, Bool.false_eq_true, false_and, and_false, Bool.not_true, Bool.not_false, Option.some.injEq, exists_eq_left', exists_eq_left, exists_and_left, List.nodup_cons, List.nodup_nil, List.not_mem_nil, not_false_eq_true, List.mem_cons, or_false, false_or, forall_eq, forall_eq_or_imp, Slot.own.injEq, Slot.par.injEq, Slot.frz.injEq, reduceCtorEq, exists_eq', exists_eq, exists_false, decide_true, decide_false, or_self, false_implies, implies_true, forall_const, eq_self, rd_lkL1, rd_lkL2, rd_lkL3, rd_lkE1, rd_lkE2, rd_thE1, rd_thE2, rd_lkF1, rd_lkX1, rd_lkX2, rd_lkX3, rd_mvS1, rd_mvS2, rd_mvE1, rd_mvE2, rd_lsO1, rd_lsO2, rd_tpO1, rd_sol1, rd_sol2, rd_sol3, rd_sol4, rd_sol5, rd_sol6, rd_sol7, rd_flat1, rd_flat2, rd_flat3, rd_flat4, rd_flat5, rd_asD1, rd_asD2, rd_asQ1, rd_asQ2, rd_asB, rd_asI, rd_p1, rd_p2, rd_pI0, rd_pI2, rd_pU, rd_pAdd1, rd_pAdd2, rd_pAdd3, rd_pAdd4, rd_pMul1, rd_pMul2, rd_pMul3, rd_pLen1, rd_pLen2, rd_pLen3, rd_pInt1, rd_pAbs, rd_pList1, rd_pList2, rd_pList3, rd_pCut1, rd_pCut2, rd_pCut3, rd_non1, rd_non2, rd_non3, rd_non4, rd_non5, rd_non6, rd_isStr, rd_pIx1, rd_pIx2, rd_pIx3, rd_pJoin1, rd_upS1, rd_upS2, rd_out1, rd_out2, rd_out3, rd_out4, rd_asL1, rd_asL2, rd_putL1, rd_putL2, rd_stA, rd_isi1, rd_isi2, rd_isi3, rd_isi4, rd_isX, rd_draw, rd_take, rd_pLt, rd_pLe, rd_pGt, rd_pGe, rd_pTuple1, rd_pTuple2, rd_pStr1, rd_pStr2, rd_pInt, rd_pIntS, rd_pIntB, rd_pOrd, rd_pMax, rd_pSplit, rd_pPart, rd_stO, rd_pCutS, rd_solB, rd_pIn1, rd_pNotIn1, rd_pIn2, rd_pIn3, rd_pNotIn2, rd_pNotIn3, rd_pBls, rd_pJoin2, rd_at0, rd_at1, rd_at2, rd_at3, rd_atL, rd_ixL, rd_pRepr, rd_pGt2, rd_pLt2]
    have := h _ _ (hr [] 0 (.nil hno))
    rw [List.append_nil, Nat.add_zero] at this
    exact ⟨by omega, this⟩
  | @yes k t hm =>
    have ml := match_len hm
    rw [List.length_drop] at ml
    simp only [h4, h5, List.length_map, sSeq, sSet, sIf, sRet, sRetN, sNext, sBreak, sCont, sDrop, sNever, sAsg, sPar, sAug, sApp, sExt, sSetI, sForI, sWhile, sMid, sTry, sRaise, qVar, qC, qOp, qUn, qB, qAnd, qOr, qNot, qAndV, qOrV, qNotV, qIf, qNil, qCons, qCB, qTup, qLst, qCut, qPart, qNo, qM1, qM0, qCall, qChain, qXf, eQ, eVar, eC, eOp, eUn, eIf, eNil, eCons, eCB, eTup, eLst, eO, eCut, eM1, eM0, ePop, eIxV, eAnd, eOr, eNot, eAndV, eOrV, eNotV, eChain, eCutE, eNo, ePart, oSu, iS, tB', tQ, tYes', oE, oLst, oMove, oIf, oCall, oSt, oComp, iL, iT, iR1, iR2, gN, gT, gsNil, gsCons, cNil, cVal, cRef, free_0, free_succ, ends, outs, nils, resolve, putBack, allRef, refs, wipeE, pIsN, pNotN, pEq, pNe, eqOk_ii, eqOk_ss, eqOk_bb, eqOk_ni, eqOk_in, frS_frz, frS_own, frS_nil, List.replicate, List.getElem?_cons_zero, List.getElem?_cons_succ, List.set_cons_zero, List.set_cons_succ, List.cons_append, List.nil_append, List.length_cons, List.length_nil, List.take_succ_cons, List.take_zero, List.map_cons, List.map_nil, true_and, and_true, D.int.injEq, D.str.injEq, D.lst.injEq, decide_eq_true_eq, ite_true, ite_false, if_true, if_false, reduceIte, Bool.false_eq_true, false_and, and_false, Bool.not_true, Bool.not_false, Option.some.injEq, exists_eq_left', exists_eq_left, exists_and_left, List.nodup_cons, List.nodup_nil, List.not_mem_nil, not_false_eq_true, List.mem_cons, or_false, false_or, forall_eq, forall_eq_or_imp, Slot.own.injEq, Slot.par.injEq, Slot.frz.injEq, reduceCtorEq, exists_eq', exists_eq, exists_false, decide_true, decide_false, or_self, false_implies, implies_true, forall_const, eq_self, rd_lkL1, rd_lkL2, rd_lkL3, rd_lkE1, rd_lkE2, rd_thE1, rd_thE2, rd_lkF1, rd_lkX1, rd_lkX2, rd_lkX3, rd_mvS1, rd_mvS2, rd_mvE1, rd_mvE2, rd_lsO1, rd_lsO2, rd_tpO1, rd_sol1, rd_sol2, rd_sol3, rd_sol4, rd_sol5, rd_sol6, rd_sol7, rd_flat1, rd_flat2, rd_flat3, rd_flat4, rd_flat5, rd_asD1, rd_asD2, rd_asQ1, rd_asQ2, rd_asB, rd_asI, rd_p1, rd_p2, rd_pI0, rd_pI2, rd_pU, rd_pAdd1, rd_pAdd2, rd_pAdd3, rd_pAdd4, rd_pMul1, rd_pMul2, rd_pMul3, rd_pLen1, rd_pLen2, rd_pLen3, rd_pInt1, rd_pAbs, rd_pList1, rd_pList2, rd_pList3, rd_pCut1, rd_pCut2, rd_pCut3, rd_non1, rd_non2, rd_non3, rd_non4, rd_non5, rd_non6, rd_isStr, rd_pIx1, rd_pIx2, rd_pIx3, rd_pJoin1, rd_upS1, rd_upS2, rd_out1, rd_out2, rd_out3, rd_out4, rd_asL1, rd_asL2, rd_putL1, rd_putL2, rd_stA, rd_isi1, rd_isi2, rd_isi3, rd_isi4, rd_isX, rd_draw, rd_take, rd_pLt, rd_pLe, rd_pGt, rd_pGe, rd_pTuple1, rd_pTuple2, rd_pStr1, rd_pStr2, rd_pInt, rd_pIntS, rd_pIntB, rd_pOrd, rd_pMax, rd_pSplit, rd_pPart, rd_stO, rd_pCutS, rd_solB, rd_pIn1, rd_pNotIn1, rd_pIn2, rd_pIn3, rd_pNotIn2, rd_pNotIn3, rd_pBls, rd_pJoin2, rd_at0, rd_at1, rd_at2, rd_at3, rd_atL, rd_ixL, rd_pRepr, rd_pGt2, rd_pLt2]
    refine ⟨by omega, by omega, c_told hl hc8 fun o ho => ?_⟩
    simp only [sSeq, sSet, sIf, sRet, sRetN, sNext, sBreak, sCont, sDrop, sNever, sAsg, sPar, sAug, sApp, sExt, sSetI, sForI, sWhile, sMid, sTry, sRaise, qVar, qC, qOp, qUn, qB, qAnd, qOr, qNot, qAndV, qOrV, qNotV, qIf, qNil, qCons, qCB, qTup, qLst, qCut, qPart, qNo, qM1, qM0, qCall, qChain, qXf, eQ, eVar, eC, eOp, eUn, eIf, eNil, eCons, eCB, eTup, eLst, eO, eCut, eM1, eM0, ePop, eIxV, eAnd, eOr, eNot, eAndV, eOrV, eNotV, eChain, eCutE, eNo, ePart, oSu, iS, tB', tQ, tYes', oE, oLst, oMove, oIf, oCall, oSt, oComp, iL, iT, iR1, iR2, gN, gT, gsNil, gsCons, cNil, cVal, cRef, free_0, free_succ, ends, outs, nils, resolve, putBack, allRef, refs, wipeE, pIsN, pNotN, pEq, pNe, eqOk_ii, eqOk_ss, eqOk_bb, eqOk_ni, eqOk_in, frS_frz, frS_own, frS_nil, List.replicate, List.getElem?_cons_zero, List.getElem?_cons_succ, List.set_cons_zero, List.set_cons_succ, List.cons_append, List.nil_append, List.length_cons, List.length_nil, List.take_succ_cons, List.take_zero, List.map_cons, List.map_nil, true_and, and_true, D.int.injEq, D.str.injEq, D.lst.injEq, decide_eq_true_eq, ite_true, ite_false, if_true, if_false, reduceIte, Bool.false_eq_true, false_and, and_false, Bool.not_true, Bool.not_false, Option.some.injEq, exists_eq_left', exists_eq_left, exists_and_left, List.nodup_cons, List.nodup_nil, List.not_mem_nil, not_false_eq_true, List.mem_cons, or_false, false_or, forall_eq, forall_eq_or_imp, Slot.own.injEq, Slot.par.injEq, Slot.frz.injEq, reduceCtorEq, exists_eq', exists_eq, exists_false, decide_true, decide_false, or_self, false_implies, implies_true, forall_const, eq_self, rd_lkL1, rd_lkL2, rd_lkL3, rd_lkE1, rd_lkE2, rd_thE1, rd_thE2, rd_lkF1, rd_lkX1, rd_lkX2, rd_lkX3, rd_mvS1, rd_mvS2, rd_mvE1, rd_mvE2, rd_lsO1, rd_lsO2, rd_tpO1, rd_sol1, rd_sol2, rd_sol3, rd_sol4, rd_sol5, rd_sol6, rd_sol7, rd_flat1, rd_flat2, rd_flat3, rd_flat4, rd_flat5, rd_asD1, rd_asD2, rd_asQ1, rd_asQ2, rd_asB, rd_asI, rd_p1, rd_p2, rd_pI0, rd_pI2, rd_pU, rd_pAdd1, rd_pAdd2, rd_pAdd3, rd_pAdd4, rd_pMul1, rd_pMul2, rd_pMul3, rd_pLen1, rd_pLen2, rd_pLen3, rd_pInt1, rd_pAbs, rd_pList1, rd_pList2, rd_pList3, rd_pCut1, rd_pCut2, rd_pCut3, rd_non1, rd_non2, rd_non3, rd_non4, rd_non5, rd_non6, rd_isStr, rd_pIx1, rd_pIx2, rd_pIx3, rd_pJoin1, rd_upS1, rd_upS2, rd_out1, rd_out2, rd_out3, rd_out4, rd_asL1, rd_asL2, rd_putL1, rd_putL2, rd_stA, rd_isi1, rd_isi2, rd_isi3, rd_isi4, rd_isX, rd_draw, rd_take, rd_pLt, rd_pLe, rd_pGt, rd_pGe, rd_pTuple1, rd_pTuple2, rd_pStr1, rd_pStr2, rd_pInt, rd_pIntS, rd_pIntB, rd_pOrd, rd_pMax, rd_pSplit, rd_pPart, rd_stO, rd_pCutS, rd_solB, rd_pIn1, rd_pNotIn1, rd_pIn2, rd_pIn3, rd_pNotIn2, rd_pNotIn3, rd_pBls, rd_pJoin2, rd_at0, rd_at1, rd_at2, rd_at3, rd_atL, rd_ixL, rd_pRepr, rd_pGt2, rd_pLt2]
    refine ⟨x.length - (a + (recL k t).length), by omega, rs ++ [(k, t)], a + (recL k t).length, o, Pu.Slot.frz (D.int k), Pu.Slot.frz (D.str (SX.S t)), ?_, rfl, rfl, rfl, by omega, by simp; omega, ho, told_next hm hr⟩
    simp [recD]
def I_lr (x : List Nat) (i : Nat) (env : Pu.Env) : Prop := ∃ (rs : List (Nat × List Nat)) (a : Nat) (x3 x4 x5 x6 x7 x8 : Pu.Slot), env = [.frz (.str (SX.S x)), .own (.lst (rs.map recD)), .frz (.int a), x3, x4, x5, x6, x7, x8] ∧ frS x3 = true ∧ frS x4 = true ∧ frS x5 = true ∧ frS x6 = true ∧ frS x7 = true ∧ frS x8 = true ∧ a ≤ x.length ∧ rs.length = i ∧ 7 * i ≤ a ∧
  ∀ rs' n, Reads (x.drop a) rs' n → Reads x (rs ++ rs') (a + n)
/-- the best so far: all of the kinds up to i, and of the next one all shorter than j, were looked at -/
inductive BestR (l : List Nat) (i j : Nat) : D → Prop where
  | yes {k : Nat} {t : List Nat} (h : Match l k t) : BestR l i j (.tup [.int k, .str (SX.S t)])
  | no (h : ∀ k t, Match l k t → ¬ (k ≤ i ∨ (k = i + 1 ∧ t.length < j))) : BestR l i j .non
def I_k (x : List Nat) (rs : List (Nat × List Nat)) (a : Nat) (i : Nat) (env : Pu.Env) : Prop := ∃ (o : D) (x3 x5 x6 x7 x8 : Pu.Slot), env = [.frz (.str (SX.S x)), .own (.lst (rs.map recD)), .frz (.int a), x3, .frz o, x5, x6, x7, x8] ∧ frS x3 = true ∧ frS x5 = true ∧ frS x6 = true ∧ frS x7 = true ∧ frS x8 = true ∧ BestR (x.drop a) i 0 o
def I_s (x : List Nat) (rs : List (Nat × List Nat)) (a : Nat) (i j : Nat) (env : Pu.Env) : Prop := ∃ (o : D) (x3 x6 x7 x8 : Pu.Slot), env = [.frz (.str (SX.S x)), .own (.lst (rs.map recD)), .frz (.int a), x3, .frz o, .frz (.int (i + 1 : Nat)), x6, x7, x8] ∧ frS x3 = true ∧ frS x6 = true ∧ frS x7 = true ∧ frS x8 = true ∧ BestR (x.drop a) i j o
theorem best_end {l : List Nat} {i : Nat} {o : D} (h : BestR l i l.length o) : BestR l (i + 1) 0 o := by
  cases h with
  | yes h => exact .yes h
  | no h =>
    refine .no fun k t m => ?_
    have := h k t m
    have ml := match_len m
    have hb := body_len (k := k) (t := t)
    have hr : (recL k t).length = (bodyL k t).length + (tailL (bodyL k t)).length := by rw [rec_tail, List.length_append]
    omega
theorem rec_len {k : Nat} {t : List Nat} (hk : k ≤ 9) (ht : t.length ≤ 100000) : (recL k t).length ≤ t.length + 21 := by
  have h1 := num1 hk
  have h2 := num6 ht
  have h3 := num10 (chk_lt (bodyL k t))
  unfold recL
  simp only [List.length_append, List.length_cons, List.length_nil, body_len]
  omega
theorem num_chars {n c : Nat} (h : c ∈ TL.numL n) : c < 128 := by
  have := TL.numL_digits n c h
  omega
theorem rec_chars {k : Nat} {t : List Nat} (ht : ∀ c ∈ t, c < 128) : ∀ c ∈ recL k t, c < 128 := by
  intro c hc
  unfold recL bodyL at hc
  simp only [List.mem_append, List.mem_cons, List.not_mem_nil, or_false] at hc
  rcases hc with (((((((h | h) | h) | h) | h) | h) | h) | h)
  all_goals first | exact num_chars h | exact ht c h | omega
theorem look_no {l : List Nat} {k j : Nat} : ∀ t, Match l (k + 1) t → t.length = j → l.take (TL.numL (k + 1) ++ [32] ++ TL.numL j ++ [58]).length = TL.numL (k + 1) ++ [32] ++ TL.numL j ++ [58] ∧ (l.drop (TL.numL (k + 1) ++ [32] ++ TL.numL j ++ [58]).length).take j = t ∧ l.take (recL (k + 1) t).length = recL (k + 1) t := by
  rintro t ⟨_, r, e⟩ rfl
  have e2 : l = (TL.numL (k + 1) ++ [32] ++ TL.numL t.length ++ [58]) ++ (t ++ (tailL (bodyL (k + 1) t) ++ r)) := by
    rw [← e, rec_tail, List.append_assoc]
    unfold bodyL
    simp only [List.append_assoc]
  refine ⟨?_, ?_, ?_⟩
  · rw [e2, List.take_left]
  · rw [e2, List.drop_left, List.take_left]
  · rw [← e, List.take_left]
theorem pp_law_read : ∀ as Q X, ps_law_read as Q X → p_law_read (ends 1 Q) (as ++ nils (9 - as.length)) := by
  rintro as Q X ⟨x, rfl, hl, hc8, h⟩
  obtain ⟨x, rfl⟩ : ∃ T, x = SX.S T := ⟨_, S_of x⟩
  simp only [S_cps, SX.S_len] at hl hc8 h
  have e2 := big
  obtain ⟨l1, l2, l3, l4, l5⟩ := lits
  simp only [p_law_read, sSeq, sSet, sIf, sRet, sRetN, sNext, sBreak, sCont, sDrop, sNever, sAsg, sPar, sAug, sApp, sExt, sSetI, sForI, sWhile, sMid, sTry, sRaise, qVar, qC, qOp, qUn, qB, qAnd, qOr, qNot, qAndV, qOrV, qNotV, qIf, qNil, qCons, qCB, qTup, qLst, qCut, qPart, qNo, qM1, qM0, qCall, qChain, qXf, eQ, eVar, eC, eOp, eUn, eIf, eNil, eCons, eCB, eTup, eLst, eO, eCut, eM1, eM0, ePop, eIxV, eAnd, eOr, eNot, eAndV, eOrV, eNotV, eChain, eCutE, eNo, ePart, oSu, iS, tB', tQ, tYes', oE, oLst, oMove, oIf, oCall, oSt, oComp, iL, iT, iR1, iR2, gN, gT, gsNil, gsCons, cNil, cVal, cRef, free_0, free_succ, ends, outs, nils, resolve, putBack, allRef, refs, wipeE, pIsN, pNotN, pEq, pNe, eqOk_ii, eqOk_ss, eqOk_bb, eqOk_ni, eqOk_in, frS_frz, frS_own, frS_nil, List.replicate, List.getElem?_cons_zero, List.getElem?_cons_succ, List.set_cons_zero, List.set_cons_succ, List.cons_append, List.nil_append, List.length_cons, List.length_nil, List.take_succ_cons, List.take_zero, List.map_cons, List.map_nil, true_and, and_true, D.int.injEq, D.str.injEq, D.lst.injEq, decide_eq_true_eq, ite_true, ite_false, if_true, if_false, reduceIte, Bool.false_eq_true, false_and, and_false, Bool.not_true, Bool.not_false, Option.some.injEq, exists_eq_left', exists_eq_left, exists_and_left, List.nodup_cons, List.nodup_nil, List.not_mem_nil, not_false_eq_true, List.mem_cons, or_false, false_or, forall_eq, forall_eq_or_imp, Slot.own.injEq, Slot.par.injEq, Slot.frz.injEq, reduceCtorEq, exists_eq', exists_eq, exists_false, decide_true, decide_false, or_self, false_implies, implies_true, forall_const, eq_self, rd_lkL1, rd_lkL2, rd_lkL3, rd_lkE1, rd_lkE2, rd_thE1, rd_thE2, rd_lkF1, rd_lkX1, rd_lkX2, rd_lkX3, rd_mvS1, rd_mvS2, rd_mvE1, rd_mvE2, rd_lsO1, rd_lsO2, rd_tpO1, rd_sol1, rd_sol2, rd_sol3, rd_sol4, rd_sol5, rd_sol6, rd_sol7, rd_flat1, rd_flat2, rd_flat3, rd_flat4, rd_flat5, rd_asD1, rd_asD2, rd_asQ1, rd_asQ2, rd_asB, rd_asI, rd_p1, rd_p2, rd_pI0, rd_pI2, rd_pU, rd_pAdd1, rd_pAdd2, rd_pAdd3, rd_pAdd4, rd_pMul1, rd_pMul2, rd_pMul3, rd_pLen1, rd_pLen2, rd_pLen3, rd_pInt1, rd_pAbs, rd_pList1, rd_pList2, rd_pList3, rd_pCut1, rd_pCut2, rd_pCut3, rd_non1, rd_non2, rd_non3, rd_non4, rd_non5, rd_non6, rd_isStr, rd_pIx1, rd_pIx2, rd_pIx3, rd_pJoin1, rd_upS1, rd_upS2, rd_out1, rd_out2, rd_out3, rd_out4, rd_asL1, rd_asL2, rd_putL1, rd_putL2, rd_stA, rd_isi1, rd_isi2, rd_isi3, rd_isi4, rd_isX, rd_draw, rd_take, rd_pLt, rd_pLe, rd_pGt, rd_pGe, rd_pTuple1, rd_pTuple2, rd_pStr1, rd_pStr2, rd_pInt, rd_pIntS, rd_pIntB, rd_pOrd, rd_pMax, rd_pSplit, rd_pPart, rd_stO, rd_pCutS, rd_solB, rd_pIn1, rd_pNotIn1, rd_pIn2, rd_pIn3, rd_pNotIn2, rd_pNotIn3, rd_pBls, rd_pJoin2, rd_at0, rd_at1, rd_at2, rd_at3, rd_atL, rd_ixL, rd_pRepr, rd_pGt2, rd_pLt2]
  rw [SX.S_len]
  refine ⟨by omega, by omega, by unfold CDiv; omega, by omega, I_lr x, ⟨[], 0, _, _, _, _, _, _, rfl, rfl, rfl, rfl, rfl, rfl, rfl, by omega, rfl, by omega, by simp⟩, ?_⟩
  rintro i env ⟨rs, a, x3, x4, x5, x6, x7, x8, rfl, h3, h4, h5, h6, h7, h8, ha, hrl, h7i, hr⟩
  refine ⟨fun d hd => ?_, fun hi => ?_⟩
  · obtain ⟨hi, rfl⟩ := rng_get hd
    simp only [h3, h4, h5, h6, h7, h8, sSeq, sSet, sIf, sRet, sRetN, sNext, sBreak, sCont, sDrop, sNever, sAsg, sPar, sAug, sApp, sExt, sSetI, sForI, sWhile, sMid, sTry, sRaise, qVar, qC, qOp, qUn, qB, qAnd, qOr, qNot, qAndV, qOrV, qNotV, qIf, qNil, qCons, qCB, qTup, qLst, qCut, qPart, qNo, qM1, qM0, qCall, qChain, qXf, eQ, eVar, eC, eOp, eUn, eIf, eNil, eCons, eCB, eTup, eLst, eO, eCut, eM1, eM0, ePop, eIxV, eAnd, eOr, eNot, eAndV, eOrV, eNotV, eChain, eCutE, eNo, ePart, oSu, iS, tB', tQ, tYes', oE, oLst, oMove, oIf, oCall, oSt, oComp, iL, iT, iR1, iR2, gN, gT, gsNil, gsCons, cNil, cVal, cRef, free_0, free_succ, ends, outs, nils, resolve, putBack, allRef, refs, wipeE, pIsN, pNotN, pEq, pNe, eqOk_ii, eqOk_ss, eqOk_bb, eqOk_ni, eqOk_in, frS_frz, frS_own, frS_nil, List.replicate, List.getElem?_cons_zero, List.getElem?_cons_succ, List.set_cons_zero, List.set_cons_succ, List.cons_append, List.nil_append, List.length_cons, List.length_nil, List.take_succ_cons, List.take_zero, List.map_cons, List.map_nil, true_and, and_true, D.int.injEq, D.str.injEq, D.lst.injEq, decide_eq_true_eq, ite_true, ite_false, if_true, if_false, reduceIte, Bool.false_eq_true, false_and, and_false, Bool.not_true, Bool.not_false, Option.some.injEq, exists_eq_left', exists_eq_left, exists_and_left, List.nodup_cons, List.nodup_nil, List.not_mem_nil, not_false_eq_true, List.mem_cons, or_false, false_or, forall_eq, forall_eq_or_imp, Slot.own.injEq, Slot.par.injEq, Slot.frz.injEq, reduceCtorEq, exists_eq', exists_eq, exists_false, decide_true, decide_false, or_self, false_implies, implies_true, forall_const, eq_self, rd_lkL1, rd_lkL2, rd_lkL3, rd_lkE1, rd_lkE2, rd_thE1, rd_thE2, rd_lkF1, rd_lkX1, rd_lkX2, rd_lkX3, rd_mvS1, rd_mvS2, rd_mvE1, rd_mvE2, rd_lsO1, rd_lsO2, rd_tpO1, rd_sol1, rd_sol2, rd_sol3, rd_sol4, rd_sol5, rd_sol6, rd_sol7, rd_flat1, rd_flat2, rd_flat3, rd_flat4, rd_flat5, rd_asD1, rd_asD2, rd_asQ1, rd_asQ2, rd_asB, rd_asI, rd_p1, rd_p2, rd_pI0, rd_pI2, rd_pU, rd_pAdd1, rd_pAdd2, rd_pAdd3, rd_pAdd4, rd_pMul1, rd_pMul2, rd_pMul3, rd_pLen1, rd_pLen2, rd_pLen3, rd_pInt1, rd_pAbs, rd_pList1, rd_pList2, rd_pList3, rd_pCut1, rd_pCut2, rd_pCut3, rd_non1, rd_non2, rd_non3, rd_non4, rd_non5, rd_non6, rd_isStr, rd_pIx1, rd_pIx2, rd_pIx3, rd_pJoin1, rd_upS1, rd_upS2, rd_out1, rd_out2, rd_out3, rd_out4, rd_asL1, rd_asL2, rd_putL1, rd_putL2, rd_stA, rd_isi1, rd_isi2, rd_isi3, rd_isi4, rd_isX, rd_draw, rd_take, rd_pLt, rd_pLe, rd_pGt, rd_pGe, rd_pTuple1, rd_pTuple2, rd_pStr1, rd_pStr2, rd_pInt, rd_pIntS, rd_pIntB, rd_pOrd, rd_pMax, rd_pSplit, rd_pPart, rd_stO, rd_pCutS, rd_solB, rd_pIn1, rd_pNotIn1, rd_pIn2, rd_pIn3, rd_pNotIn2, rd_pNotIn3, rd_pBls, rd_pJoin2, rd_at0, rd_at1, rd_at2, rd_at3, rd_atL, rd_ixL, rd_pRepr, rd_pGt2, rd_pLt2]
    refine ⟨by omega, I_k x rs a, ⟨.non, _, _, _, _, _, rfl, rfl, h5, h6, h7, h8, .no fun k t m => by have := m.1; omega⟩, ?_⟩
    rintro k env ⟨o, x3, x5, x6, x7, x8, rfl, h3, h5, h6, h7, h8, hb⟩
    refine ⟨fun d hd => ?_, fun hk => ?_⟩
    · have hd2 : k < 3 ∧ d = .int (k + 1 : Nat) := by
        match k, hd with
        | 0, hd => exact ⟨by omega, by simpa using hd.symm⟩
        | 1, hd => exact ⟨by omega, by simpa using hd.symm⟩
        | 2, hd => exact ⟨by omega, by simpa using hd.symm⟩
        | k + 3, hd => simp at hd
      obtain ⟨hk3, rfl⟩ := hd2
      simp only [h5, SX.S_len, sSeq, sSet, sIf, sRet, sRetN, sNext, sBreak, sCont, sDrop, sNever, sAsg, sPar, sAug, sApp, sExt, sSetI, sForI, sWhile, sMid, sTry, sRaise, qVar, qC, qOp, qUn, qB, qAnd, qOr, qNot, qAndV, qOrV, qNotV, qIf, qNil, qCons, qCB, qTup, qLst, qCut, qPart, qNo, qM1, qM0, qCall, qChain, qXf, eQ, eVar, eC, eOp, eUn, eIf, eNil, eCons, eCB, eTup, eLst, eO, eCut, eM1, eM0, ePop, eIxV, eAnd, eOr, eNot, eAndV, eOrV, eNotV, eChain, eCutE, eNo, ePart, oSu, iS, tB', tQ, tYes', oE, oLst, oMove, oIf, oCall, oSt, oComp, iL, iT, iR1, iR2, gN, gT, gsNil, gsCons, cNil, cVal, cRef, free_0, free_succ, ends, outs, nils, resolve, putBack, allRef, refs, wipeE, pIsN, pNotN, pEq, pNe, eqOk_ii, eqOk_ss, eqOk_bb, eqOk_ni, eqOk_in, frS_frz, frS_own, frS_nil, List.replicate, List.getElem?_cons_zero, List.getElem?_cons_succ, List.set_cons_zero, List.set_cons_succ, List.cons_append, List.nil_append, List.length_cons, List.length_nil, List.take_succ_cons, List.take_zero, List.map_cons, List.map_nil, true_and, and_true, D.int.injEq, D.str.injEq, D.lst.injEq, decide_eq_true_eq, ite_true, ite_false, if_true, if_false, reduceIte, Bool.false_eq_true, false_and, and_false, Bool.not_true, Bool.not_false, Option.some.injEq, exists_eq_left', exists_eq_left, exists_and_left, List.nodup_cons, List.nodup_nil, List.not_mem_nil, not_false_eq_true, List.mem_cons, or_false, false_or, forall_eq, forall_eq_or_imp, Slot.own.injEq, Slot.par.injEq, Slot.frz.injEq, reduceCtorEq, exists_eq', exists_eq, exists_false, decide_true, decide_false, or_self, false_implies, implies_true, forall_const, eq_self, rd_lkL1, rd_lkL2, rd_lkL3, rd_lkE1, rd_lkE2, rd_thE1, rd_thE2, rd_lkF1, rd_lkX1, rd_lkX2, rd_lkX3, rd_mvS1, rd_mvS2, rd_mvE1, rd_mvE2, rd_lsO1, rd_lsO2, rd_tpO1, rd_sol1, rd_sol2, rd_sol3, rd_sol4, rd_sol5, rd_sol6, rd_sol7, rd_flat1, rd_flat2, rd_flat3, rd_flat4, rd_flat5, rd_asD1, rd_asD2, rd_asQ1, rd_asQ2, rd_asB, rd_asI, rd_p1, rd_p2, rd_pI0, rd_pI2, rd_pU, rd_pAdd1, rd_pAdd2, rd_pAdd3, rd_pAdd4, rd_pMul1, rd_pMul2, rd_pMul3, rd_pLen1, rd_pLen2, rd_pLen3, rd_pInt1, rd_pAbs, rd_pList1, rd_pList2, rd_pList3, rd_pCut1, rd_pCut2, rd_pCut3, rd_non1, rd_non2, rd_non3, rd_non4, rd_non5, rd_non6, rd_isStr, rd_pIx1, rd_pIx2, rd_pIx3, rd_pJoin1, rd_upS1, rd_upS2, rd_out1, rd_out2, rd_out3, rd_out4, rd_asL1, rd_asL2, rd_putL1, rd_putL2, rd_stA, rd_isi1, rd_isi2, rd_isi3, rd_isi4, rd_isX, rd_draw, rd_take, rd_pLt, rd_pLe, rd_pGt, rd_pGe, rd_pTuple1, rd_pTuple2, rd_pStr1, rd_pStr2, rd_pInt, rd_pIntS, rd_pIntB, rd_pOrd, rd_pMax, rd_pSplit, rd_pPart, rd_stO, rd_pCutS, rd_solB, rd_pIn1, rd_pNotIn1, rd_pIn2, rd_pIn3, rd_pNotIn2, rd_pNotIn3, rd_pBls, rd_pJoin2, rd_at0, rd_at1, rd_at2, rd_at3, rd_atL, rd_ixL, rd_pRepr, rd_pGt2, rd_pLt2]
      refine ⟨by omega, by omega, I_s x rs a k, ⟨o, _, _, _, _, rfl, h3, h6, h7, h8, hb⟩, ?_⟩
      rintro j env ⟨o, x3, x6, x7, x8, rfl, h3, h6, h7, h8, hb⟩
      refine ⟨fun d hd => ?_, fun hj => ?_⟩
      · obtain ⟨hj, rfl⟩ := rng_get hd
        have hk1 := num1 (show k + 1 ≤ 9 by omega)
        have hj6 := num6 (show j ≤ 100000 by omega)
        simp only [h6, h7, h8, Int.zero_add, l1, l2, str_num, S_app, SX.S_len, sSeq, sSet, sIf, sRet, sRetN, sNext, sBreak, sCont, sDrop, sNever, sAsg, sPar, sAug, sApp, sExt, sSetI, sForI, sWhile, sMid, sTry, sRaise, qVar, qC, qOp, qUn, qB, qAnd, qOr, qNot, qAndV, qOrV, qNotV, qIf, qNil, qCons, qCB, qTup, qLst, qCut, qPart, qNo, qM1, qM0, qCall, qChain, qXf, eQ, eVar, eC, eOp, eUn, eIf, eNil, eCons, eCB, eTup, eLst, eO, eCut, eM1, eM0, ePop, eIxV, eAnd, eOr, eNot, eAndV, eOrV, eNotV, eChain, eCutE, eNo, ePart, oSu, iS, tB', tQ, tYes', oE, oLst, oMove, oIf, oCall, oSt, oComp, iL, iT, iR1, iR2, gN, gT, gsNil, gsCons, cNil, cVal, cRef, free_0, free_succ, ends, outs, nils, resolve, putBack, allRef, refs, wipeE, pIsN, pNotN, pEq, pNe, eqOk_ii, eqOk_ss, eqOk_bb, eqOk_ni, eqOk_in, frS_frz, frS_own, frS_nil, List.replicate, List.getElem?_cons_zero, List.getElem?_cons_succ, List.set_cons_zero, List.set_cons_succ, List.cons_append, List.nil_append, List.length_cons, List.length_nil, List.take_succ_cons, List.take_zero, List.map_cons, List.map_nil, true_and, and_true, D.int.injEq, D.str.injEq, D.lst.injEq, decide_eq_true_eq, ite_true, ite_false, if_true, if_false, reduceIte, Bool.false_eq_true, false_and, and_false, Bool.not_true, Bool.not_false, Option.some.injEq, exists_eq_left', exists_eq_left, exists_and_left, List.nodup_cons, List.nodup_nil, List.not_mem_nil, not_false_eq_true, List.mem_cons, or_false, false_or, forall_eq, forall_eq_or_imp, Slot.own.injEq, Slot.par.injEq, Slot.frz.injEq, reduceCtorEq, exists_eq', exists_eq, exists_false, decide_true, decide_false, or_self, false_implies, implies_true, forall_const, eq_self, rd_lkL1, rd_lkL2, rd_lkL3, rd_lkE1, rd_lkE2, rd_thE1, rd_thE2, rd_lkF1, rd_lkX1, rd_lkX2, rd_lkX3, rd_mvS1, rd_mvS2, rd_mvE1, rd_mvE2, rd_lsO1, rd_lsO2, rd_tpO1, rd_sol1, rd_sol2, rd_sol3, rd_sol4, rd_sol5, rd_sol6, rd_sol7, rd_flat1, rd_flat2, rd_flat3, rd_flat4, rd_flat5, rd_asD1, rd_asD2, rd_asQ1, rd_asQ2, rd_asB, rd_asI, rd_p1, rd_p2, rd_pI0, rd_pI2, rd_pU, rd_pAdd1, rd_pAdd2, rd_pAdd3, rd_pAdd4, rd_pMul1, rd_pMul2, rd_pMul3, rd_pLen1, rd_pLen2, rd_pLen3, rd_pInt1, rd_pAbs, rd_pList1, rd_pList2, rd_pList3, rd_pCut1, rd_pCut2, rd_pCut3, rd_non1, rd_non2, rd_non3, rd_non4, rd_non5, rd_non6, rd_isStr, rd_pIx1, rd_pIx2, rd_pIx3, rd_pJoin1, rd_upS1, rd_upS2, rd_out1, rd_out2, rd_out3, rd_out4, rd_asL1, rd_asL2, rd_putL1, rd_putL2, rd_stA, rd_isi1, rd_isi2, rd_isi3, rd_isi4, rd_isX, rd_draw, rd_take, rd_pLt, rd_pLe, rd_pGt, rd_pGe, rd_pTuple1, rd_pTuple2, rd_pStr1, rd_pStr2, rd_pInt, rd_pIntS, rd_pIntB, rd_pOrd, rd_pMax, rd_pSplit, rd_pPart, rd_stO, rd_pCutS, rd_solB, rd_pIn1, rd_pNotIn1, rd_pIn2, rd_pIn3, rd_pNotIn2, rd_pNotIn3, rd_pBls, rd_pJoin2, rd_at0, rd_at1, rd_at2, rd_at3, rd_atL, rd_ixL, rd_pRepr, rd_pGt2, rd_pLt2]
        have sl : (TL.numL (k + 1) ++ [32] ++ TL.numL j ++ [58]).length ≤ 9 := by
          simp only [List.length_append, List.length_cons, List.length_nil]
          omega
        have ln := look_no (l := x.drop a) (k := k) (j := j)
        simp only [List.length_append, List.length_cons, List.length_nil] at sl
        refine ⟨nat_log (by omega), by omega, nat_log (by omega), by simp only [List.length_append, List.length_cons, List.length_nil]; omega, by simp only [List.length_append, List.length_cons, List.length_nil]; omega, by simp only [List.length_append, List.length_cons, List.length_nil]; omega, by simp only [List.length_append, List.length_cons, List.length_nil]; omega, by omega, by simp only [List.length_append, List.length_cons, List.length_nil]; omega, by omega, ?_⟩
        generalize TL.numL (k + 1) ++ [32] ++ TL.numL j ++ [58] = st at *
        have ea : (a : Int) + st.length = ((a + st.length : Nat) : Int) := by omega
        have eb : ((a + st.length : Nat) : Int) + j = ((a + st.length + j : Nat) : Int) := by omega
        have ct1 := cutS_nat (z := SX.S x) (Nat.le_add_right a st.length)
        have ct2 := cutS_nat (z := SX.S x) (Nat.le_add_right (a + st.length) j)
        rw [S_cps, Nat.add_sub_cancel_left] at ct1 ct2
        rw [← List.drop_drop] at ct2
        rw [ea, eb, ct1, ct2]
        have htl : (((x.drop a).drop st.length).take j).length ≤ 100000 := by rw [List.length_take]; omega
        have keep : (∀ t, Match (x.drop a) (k + 1) t → t.length = j → False) → BestR (x.drop a) k (j + 1) o := fun hno => by
          cases hb with
          | yes h => exact .yes h
          | no h =>
            refine .no fun k' t m z => ?_
            rcases z with z | ⟨rfl, z⟩
            · exact h k' t m (.inl z)
            · by_cases hj2 : t.length = j
              · exact hno t m hj2
              · exact h _ t m (.inr ⟨rfl, by omega⟩)
        by_cases h1 : (x.drop a).take st.length = st
        · rw [if_pos (by rw [h1])]
          simp only [c_rec, SX.S_len, S_cps, sSeq, sSet, sIf, sRet, sRetN, sNext, sBreak, sCont, sDrop, sNever, sAsg, sPar, sAug, sApp, sExt, sSetI, sForI, sWhile, sMid, sTry, sRaise, qVar, qC, qOp, qUn, qB, qAnd, qOr, qNot, qAndV, qOrV, qNotV, qIf, qNil, qCons, qCB, qTup, qLst, qCut, qPart, qNo, qM1, qM0, qCall, qChain, qXf, eQ, eVar, eC, eOp, eUn, eIf, eNil, eCons, eCB, eTup, eLst, eO, eCut, eM1, eM0, ePop, eIxV, eAnd, eOr, eNot, eAndV, eOrV, eNotV, eChain, eCutE, eNo, ePart, oSu, iS, tB', tQ, tYes', oE, oLst, oMove, oIf, oCall, oSt, oComp, iL, iT, iR1, iR2, gN, gT, gsNil, gsCons, cNil, cVal, cRef, free_0, free_succ, ends, outs, nils, resolve, putBack, allRef, refs, wipeE, pIsN, pNotN, pEq, pNe, eqOk_ii, eqOk_ss, eqOk_bb, eqOk_ni, eqOk_in, frS_frz, frS_own, frS_nil, List.replicate, List.getElem?_cons_zero, List.getElem?_cons_succ, List.set_cons_zero, List.set_cons_succ, List.cons_append, List.nil_append, List.length_cons, List.length_nil, List.take_succ_cons, List.take_zero, List.map_cons, List.map_nil, true_and, and_true, D.int.injEq, D.str.injEq, D.lst.injEq, decide_eq_true_eq, ite_true, ite_false, if_true, if_false, reduceIte, Bool.false_eq_true, false_and, and_false, Bool.not_true, Bool.not_false, Option.some.injEq, exists_eq_left', exists_eq_left, exists_and_left, List.nodup_cons, List.nodup_nil, List.not_mem_nil, not_false_eq_true, List.mem_cons, or_false, false_or, forall_eq, forall_eq_or_imp, Slot.own.injEq, Slot.par.injEq, Slot.frz.injEq, reduceCtorEq, exists_eq', exists_eq, exists_false, decide_true, decide_false, or_self, false_implies, implies_true, forall_const, eq_self, rd_lkL1, rd_lkL2, rd_lkL3, rd_lkE1, rd_lkE2, rd_thE1, rd_thE2, rd_lkF1, rd_lkX1, rd_lkX2, rd_lkX3, rd_mvS1, rd_mvS2, rd_mvE1, rd_mvE2, rd_lsO1, rd_lsO2, rd_tpO1, rd_sol1, rd_sol2, rd_sol3, rd_sol4, rd_sol5, rd_sol6, rd_sol7, rd_flat1, rd_flat2, rd_flat3, rd_flat4, rd_flat5, rd_asD1, rd_asD2, rd_asQ1, rd_asQ2, rd_asB, rd_asI, rd_p1, rd_p2, rd_pI0, rd_pI2, rd_pU, rd_pAdd1, rd_pAdd2, rd_pAdd3, rd_pAdd4, rd_pMul1, rd_pMul2, rd_pMul3, rd_pLen1, rd_pLen2, rd_pLen3, rd_pInt1, rd_pAbs, rd_pList1, rd_pList2, rd_pList3, rd_pCut1, rd_pCut2, rd_pCut3, rd_non1, rd_non2, rd_non3, rd_non4, rd_non5, rd_non6, rd_isStr, rd_pIx1, rd_pIx2, rd_pIx3, rd_pJoin1, rd_upS1, rd_upS2, rd_out1, rd_out2, rd_out3, rd_out4, rd_asL1, rd_asL2, rd_putL1, rd_putL2, rd_stA, rd_isi1, rd_isi2, rd_isi3, rd_isi4, rd_isX, rd_draw, rd_take, rd_pLt, rd_pLe, rd_pGt, rd_pGe, rd_pTuple1, rd_pTuple2, rd_pStr1, rd_pStr2, rd_pInt, rd_pIntS, rd_pIntB, rd_pOrd, rd_pMax, rd_pSplit, rd_pPart, rd_stO, rd_pCutS, rd_solB, rd_pIn1, rd_pNotIn1, rd_pIn2, rd_pIn3, rd_pNotIn2, rd_pNotIn3, rd_pBls, rd_pJoin2, rd_at0, rd_at1, rd_at2, rd_at3, rd_atL, rd_ixL, rd_pRepr, rd_pGt2, rd_pLt2]
          refine ⟨by omega, htl, by have := rec_len (k := k + 1) (by omega) htl; omega, by omega, by omega, htl, ?_⟩
          generalize ht' : ((x.drop a).drop st.length).take j = t' at *
          have er : (a : Int) + (recL (k + 1) t').length = ((a + (recL (k + 1) t').length : Nat) : Int) := by omega
          have ct3 := cutS_nat (z := SX.S x) (Nat.le_add_right a (recL (k + 1) t').length)
          rw [S_cps, Nat.add_sub_cancel_left] at ct3
          simp only [er, ct3, S_inj, sSeq, sSet, sIf, sRet, sRetN, sNext, sBreak, sCont, sDrop, sNever, sAsg, sPar, sAug, sApp, sExt, sSetI, sForI, sWhile, sMid, sTry, sRaise, qVar, qC, qOp, qUn, qB, qAnd, qOr, qNot, qAndV, qOrV, qNotV, qIf, qNil, qCons, qCB, qTup, qLst, qCut, qPart, qNo, qM1, qM0, qCall, qChain, qXf, eQ, eVar, eC, eOp, eUn, eIf, eNil, eCons, eCB, eTup, eLst, eO, eCut, eM1, eM0, ePop, eIxV, eAnd, eOr, eNot, eAndV, eOrV, eNotV, eChain, eCutE, eNo, ePart, oSu, iS, tB', tQ, tYes', oE, oLst, oMove, oIf, oCall, oSt, oComp, iL, iT, iR1, iR2, gN, gT, gsNil, gsCons, cNil, cVal, cRef, free_0, free_succ, ends, outs, nils, resolve, putBack, allRef, refs, wipeE, pIsN, pNotN, pEq, pNe, eqOk_ii, eqOk_ss, eqOk_bb, eqOk_ni, eqOk_in, frS_frz, frS_own, frS_nil, List.replicate, List.getElem?_cons_zero, List.getElem?_cons_succ, List.set_cons_zero, List.set_cons_succ, List.cons_append, List.nil_append, List.length_cons, List.length_nil, List.take_succ_cons, List.take_zero, List.map_cons, List.map_nil, true_and, and_true, D.int.injEq, D.str.injEq, D.lst.injEq, decide_eq_true_eq, ite_true, ite_false, if_true, if_false, reduceIte, Bool.false_eq_true, false_and, and_false, Bool.not_true, Bool.not_false, Option.some.injEq, exists_eq_left', exists_eq_left, exists_and_left, List.nodup_cons, List.nodup_nil, List.not_mem_nil, not_false_eq_true, List.mem_cons, or_false, false_or, forall_eq, forall_eq_or_imp, Slot.own.injEq, Slot.par.injEq, Slot.frz.injEq, reduceCtorEq, exists_eq', exists_eq, exists_false, decide_true, decide_false, or_self, false_implies, implies_true, forall_const, eq_self, rd_lkL1, rd_lkL2, rd_lkL3, rd_lkE1, rd_lkE2, rd_thE1, rd_thE2, rd_lkF1, rd_lkX1, rd_lkX2, rd_lkX3, rd_mvS1, rd_mvS2, rd_mvE1, rd_mvE2, rd_lsO1, rd_lsO2, rd_tpO1, rd_sol1, rd_sol2, rd_sol3, rd_sol4, rd_sol5, rd_sol6, rd_sol7, rd_flat1, rd_flat2, rd_flat3, rd_flat4, rd_flat5, rd_asD1, rd_asD2, rd_asQ1, rd_asQ2, rd_asB, rd_asI, rd_p1, rd_p2, rd_pI0, rd_pI2, rd_pU, rd_pAdd1, rd_pAdd2, rd_pAdd3, rd_pAdd4, rd_pMul1, rd_pMul2, rd_pMul3, rd_pLen1, rd_pLen2, rd_pLen3, rd_pInt1, rd_pAbs, rd_pList1, rd_pList2, rd_pList3, rd_pCut1, rd_pCut2, rd_pCut3, rd_non1, rd_non2, rd_non3, rd_non4, rd_non5, rd_non6, rd_isStr, rd_pIx1, rd_pIx2, rd_pIx3, rd_pJoin1, rd_upS1, rd_upS2, rd_out1, rd_out2, rd_out3, rd_out4, rd_asL1, rd_asL2, rd_putL1, rd_putL2, rd_stA, rd_isi1, rd_isi2, rd_isi3, rd_isi4, rd_isX, rd_draw, rd_take, rd_pLt, rd_pLe, rd_pGt, rd_pGe, rd_pTuple1, rd_pTuple2, rd_pStr1, rd_pStr2, rd_pInt, rd_pIntS, rd_pIntB, rd_pOrd, rd_pMax, rd_pSplit, rd_pPart, rd_stO, rd_pCutS, rd_solB, rd_pIn1, rd_pNotIn1, rd_pIn2, rd_pIn3, rd_pNotIn2, rd_pNotIn3, rd_pBls, rd_pJoin2, rd_at0, rd_at1, rd_at2, rd_at3, rd_atL, rd_ixL, rd_pRepr, rd_pGt2, rd_pLt2]
          by_cases h2 : (x.drop a).take (recL (k + 1) t').length = recL (k + 1) t'
          · rw [if_pos h2]
            have hm : Match (x.drop a) (k + 1) t' := ⟨by omega, List.prefix_iff_eq_take.mpr h2.symm⟩
            exact ⟨by omega, _, _, _, _, _, rfl, h3, rfl, rfl, rfl, .yes hm⟩
          · rw [if_neg h2]
            refine ⟨o, _, _, _, _, rfl, h3, rfl, rfl, rfl, keep fun t m hj2 => h2 ?_⟩
            obtain ⟨_, n2, n3⟩ := ln t m hj2
            rw [n2]
            exact n3
        · rw [if_neg (by rw [S_inj]; exact h1)]
          exact ⟨o, _, _, _, _, rfl, h3, rfl, rfl, rfl, keep fun t m hj2 => h1 (ln t m hj2).1⟩
      · rw [rng_len] at hj
        have hj' : j = (x.drop a).length := by rw [List.length_drop]; omega
        subst hj'
        exact ⟨o, _, _, _, _, _, rfl, h3, rfl, h6, h7, h8, best_end hb⟩
    · have hk' : k = 3 := hk
      subst hk'
      simp only [sSeq, sSet, sIf, sRet, sRetN, sNext, sBreak, sCont, sDrop, sNever, sAsg, sPar, sAug, sApp, sExt, sSetI, sForI, sWhile, sMid, sTry, sRaise, qVar, qC, qOp, qUn, qB, qAnd, qOr, qNot, qAndV, qOrV, qNotV, qIf, qNil, qCons, qCB, qTup, qLst, qCut, qPart, qNo, qM1, qM0, qCall, qChain, qXf, eQ, eVar, eC, eOp, eUn, eIf, eNil, eCons, eCB, eTup, eLst, eO, eCut, eM1, eM0, ePop, eIxV, eAnd, eOr, eNot, eAndV, eOrV, eNotV, eChain, eCutE, eNo, ePart, oSu, iS, tB', tQ, tYes', oE, oLst, oMove, oIf, oCall, oSt, oComp, iL, iT, iR1, iR2, gN, gT, gsNil, gsCons, cNil, cVal, cRef, free_0, free_succ, ends, outs, nils, resolve, putBack, allRef, refs, wipeE, pIsN, pNotN, pEq, pNe, eqOk_ii, eqOk_ss, eqOk_bb, eqOk_ni, eqOk_in, frS_frz, frS_own, frS_nil, List.replicate, List.getElem?_cons_zero, List.getElem?_cons_succ, List.set_cons_zero, List.set_cons_succ, List.cons_append, List.nil_append, List.length_cons, List.length_nil, List.take_succ_cons, List.take_zero, List.map_cons, List.map_nil, true_and, and_true, D.int.injEq, D.str.injEq, D.lst.injEq, decide_eq_true_eq, ite_true, ite_false, if_true, if_false, reduceIte, Bool.false_eq_true, false_and, and_false, Bool.not_true, Bool.not_false, Option.some.injEq, exists_eq_left', exists_eq_left, exists_and_left, List.nodup_cons, List.nodup_nil, List.not_mem_nil, not_false_eq_true, List.mem_cons, or_false, false_or, forall_eq, forall_eq_or_imp, Slot.own.injEq, Slot.par.injEq, Slot.frz.injEq, reduceCtorEq, exists_eq', exists_eq, exists_false, decide_true, decide_false, or_self, false_implies, implies_true, forall_const, eq_self, rd_lkL1, rd_lkL2, rd_lkL3, rd_lkE1, rd_lkE2, rd_thE1, rd_thE2, rd_lkF1, rd_lkX1, rd_lkX2, rd_lkX3, rd_mvS1, rd_mvS2, rd_mvE1, rd_mvE2, rd_lsO1, rd_lsO2, rd_tpO1, rd_sol1, rd_sol2, rd_sol3, rd_sol4, rd_sol5, rd_sol6, rd_sol7, rd_flat1, rd_flat2, rd_flat3, rd_flat4, rd_flat5, rd_asD1, rd_asD2, rd_asQ1, rd_asQ2, rd_asB, rd_asI, rd_p1, rd_p2, rd_pI0, rd_pI2, rd_pU, rd_pAdd1, rd_pAdd2, rd_pAdd3, rd_pAdd4, rd_pMul1, rd_pMul2, rd_pMul3, rd_pLen1, rd_pLen2, rd_pLen3, rd_pInt1, rd_pAbs, rd_pList1, rd_pList2, rd_pList3, rd_pCut1, rd_pCut2, rd_pCut3, rd_non1, rd_non2, rd_non3, rd_non4, rd_non5, rd_non6, rd_isStr, rd_pIx1, rd_pIx2, rd_pIx3, rd_pJoin1, rd_upS1, rd_upS2, rd_out1, rd_out2, rd_out3, rd_out4, rd_asL1, rd_asL2, rd_putL1, rd_putL2, rd_stA, rd_isi1, rd_isi2, rd_isi3, rd_isi4, rd_isX, rd_draw, rd_take, rd_pLt, rd_pLe, rd_pGt, rd_pGe, rd_pTuple1, rd_pTuple2, rd_pStr1, rd_pStr2, rd_pInt, rd_pIntS, rd_pIntB, rd_pOrd, rd_pMax, rd_pSplit, rd_pPart, rd_stO, rd_pCutS, rd_solB, rd_pIn1, rd_pNotIn1, rd_pIn2, rd_pIn3, rd_pNotIn2, rd_pNotIn3, rd_pBls, rd_pJoin2, rd_at0, rd_at1, rd_at2, rd_at3, rd_atL, rd_ixL, rd_pRepr, rd_pGt2, rd_pLt2]
      cases hb with
      | no hno =>
        simp only [sSeq, sSet, sIf, sRet, sRetN, sNext, sBreak, sCont, sDrop, sNever, sAsg, sPar, sAug, sApp, sExt, sSetI, sForI, sWhile, sMid, sTry, sRaise, qVar, qC, qOp, qUn, qB, qAnd, qOr, qNot, qAndV, qOrV, qNotV, qIf, qNil, qCons, qCB, qTup, qLst, qCut, qPart, qNo, qM1, qM0, qCall, qChain, qXf, eQ, eVar, eC, eOp, eUn, eIf, eNil, eCons, eCB, eTup, eLst, eO, eCut, eM1, eM0, ePop, eIxV, eAnd, eOr, eNot, eAndV, eOrV, eNotV, eChain, eCutE, eNo, ePart, oSu, iS, tB', tQ, tYes', oE, oLst, oMove, oIf, oCall, oSt, oComp, iL, iT, iR1, iR2, gN, gT, gsNil, gsCons, cNil, cVal, cRef, free_0, free_succ, ends, outs, nils, resolve, putBack, allRef, refs, wipeE, pIsN, pNotN, pEq, pNe, eqOk_ii, eqOk_ss, eqOk_bb, eqOk_ni, eqOk_in, frS_frz, frS_own, frS_nil, List.replicate, List.getElem?_cons_zero, List.getElem?_cons_succ, List.set_cons_zero, List.set_cons_succ, List.cons_append, List.nil_append, List.length_cons, List.length_nil, List.take_succ_cons, List.take_zero, List.map_cons, List.map_nil, true_and, and_true, D.int.injEq, D.str.injEq, D.lst.injEq, decide_eq_true_eq, ite_true, ite_false, if_true, if_false, reduceIte, Bool.false_eq_true, false_and, and_false, Bool.not_true, Bool.not_false, Option.some.injEq, exists_eq_left', exists_eq_left, exists_and_left, List.nodup_cons, List.nodup_nil, List.not_mem_nil, not_false_eq_true, List.mem_cons, or_false, false_or, forall_eq, forall_eq_or_imp, Slot.own.injEq, Slot.par.injEq, Slot.frz.injEq, reduceCtorEq, exists_eq', exists_eq, exists_false, decide_true, decide_false, or_self, false_implies, implies_true, forall_const, eq_self, rd_lkL1, rd_lkL2, rd_lkL3, rd_lkE1, rd_lkE2, rd_thE1, rd_thE2, rd_lkF1, rd_lkX1, rd_lkX2, rd_lkX3, rd_mvS1, rd_mvS2, rd_mvE1, rd_mvE2, rd_lsO1, rd_lsO2, rd_tpO1, rd_sol1, rd_sol2, rd_sol3, rd_sol4, rd_sol5, rd_sol6, rd_sol7, rd_flat1, rd_flat2, rd_flat3, rd_flat4, rd_flat5, rd_asD1, rd_asD2, rd_asQ1, rd_asQ2, rd_asB, rd_asI, rd_p1, rd_p2, rd_pI0, rd_pI2, rd_pU, rd_pAdd1, rd_pAdd2, rd_pAdd3, rd_pAdd4, rd_pMul1, rd_pMul2, rd_pMul3, rd_pLen1, rd_pLen2, rd_pLen3, rd_pInt1, rd_pAbs, rd_pList1, rd_pList2, rd_pList3, rd_pCut1, rd_pCut2, rd_pCut3, rd_non1, rd_non2, rd_non3, rd_non4, rd_non5, rd_non6, rd_isStr, rd_pIx1, rd_pIx2, rd_pIx3, rd_pJoin1, rd_upS1, rd_upS2, rd_out1, rd_out2, rd_out3, rd_out4, rd_asL1, rd_asL2, rd_putL1, rd_putL2, rd_stA, rd_isi1, rd_isi2, rd_isi3, rd_isi4, rd_isX, rd_draw, rd_take, rd_pLt, rd_pLe, rd_pGt, rd_pGe, rd_pTuple1, rd_pTuple2, rd_pStr1, rd_pStr2, rd_pInt, rd_pIntS, rd_pIntB, rd_pOrd, rd_pMax, rd_pSplit, rd_pPart, rd_stO, rd_pCutS, rd_solB, rd_pIn1, rd_pNotIn1, rd_pIn2, rd_pIn3, rd_pNotIn2, rd_pNotIn3, rd_pBls, rd_pJoin2, rd_at0, rd_at1, rd_at2, rd_at3, rd_atL, rd_ixL, rd_pRepr, rd_pGt2, rd_pLt2]
        have hn : ∀ k t, ¬ Match (x.drop a) k t := fun k t m => hno k t m (.inl (by have := m.1; omega))
        have := h _ _ (hr [] 0 (.nil hn))
        rw [List.append_nil, Nat.add_zero] at this
        exact ⟨by omega, this⟩
      | @yes k t hm =>
        have ml := match_len hm
        rw [List.length_drop] at ml
        simp only [List.length_map, rd_at0, rd_at1, sSeq, sSet, sIf, sRet, sRetN, sNext, sBreak, sCont, sDrop, sNever, sAsg, sPar, sAug, sApp, sExt, sSetI, sForI, sWhile, sMid, sTry, sRaise, qVar, qC, qOp, qUn, qB, qAnd, qOr, qNot, qAndV, qOrV, qNotV, qIf, qNil, qCons, qCB, qTup, qLst, qCut, qPart, qNo, qM1, qM0, qCall, qChain, qXf, eQ, eVar, eC, eOp, eUn, eIf, eNil, eCons, eCB, eTup, eLst, eO, eCut, eM1, eM0, ePop, eIxV, eAnd, eOr, eNot, eAndV, eOrV, eNotV, eChain, eCutE, eNo, ePart, oSu, iS, tB', tQ, tYes', oE, oLst, oMove, oIf, oCall, oSt, oComp, iL, iT, iR1, iR2, gN, gT, gsNil, gsCons, cNil, cVal, cRef, free_0, free_succ, ends, outs, nils, resolve, putBack, allRef, refs, wipeE, pIsN, pNotN, pEq, pNe, eqOk_ii, eqOk_ss, eqOk_bb, eqOk_ni, eqOk_in, frS_frz, frS_own, frS_nil, List.replicate, List.getElem?_cons_zero, List.getElem?_cons_succ, List.set_cons_zero, List.set_cons_succ, List.cons_append, List.nil_append, List.length_cons, List.length_nil, List.take_succ_cons, List.take_zero, List.map_cons, List.map_nil, true_and, and_true, D.int.injEq, D.str.injEq, D.lst.injEq, decide_eq_true_eq, ite_true, ite_false, if_true, if_false, reduceIte, Bool.false_eq_true, false_and, and_false, Bool.not_true, Bool.not_false, Option.some.injEq, exists_eq_left', exists_eq_left, exists_and_left, List.nodup_cons, List.nodup_nil, List.not_mem_nil, not_false_eq_true, List.mem_cons, or_false, false_or, forall_eq, forall_eq_or_imp, Slot.own.injEq, Slot.par.injEq, Slot.frz.injEq, reduceCtorEq, exists_eq', exists_eq, exists_false, decide_true, decide_false, or_self, false_implies, implies_true, forall_const, eq_self, rd_lkL1, rd_lkL2, rd_lkL3, rd_lkE1, rd_lkE2, rd_thE1, rd_thE2, rd_lkF1, rd_lkX1, rd_lkX2, rd_lkX3, rd_mvS1, rd_mvS2, rd_mvE1, rd_mvE2, rd_lsO1, rd_lsO2, rd_tpO1, rd_sol1, rd_sol2, rd_sol3, rd_sol4, rd_sol5, rd_sol6, rd_sol7, rd_flat1, rd_flat2, rd_flat3, rd_flat4, rd_flat5, rd_asD1, rd_asD2, rd_asQ1, rd_asQ2, rd_asB, rd_asI, rd_p1, rd_p2, rd_pI0, rd_pI2, rd_pU, rd_pAdd1, rd_pAdd2, rd_pAdd3, rd_pAdd4, rd_pMul1, rd_pMul2, rd_pMul3, rd_pLen1, rd_pLen2, rd_pLen3, rd_pInt1, rd_pAbs, rd_pList1, rd_pList2, rd_pList3, rd_pCut1, rd_pCut2, rd_pCut3, rd_non1, rd_non2, rd_non3, rd_non4, rd_non5, rd_non6, rd_isStr, rd_pIx1, rd_pIx2, rd_pIx3, rd_pJoin1, rd_upS1, rd_upS2, rd_out1, rd_out2, rd_out3, rd_out4, rd_asL1, rd_asL2, rd_putL1, rd_putL2, rd_stA, rd_isi1, rd_isi2, rd_isi3, rd_isi4, rd_isX, rd_draw, rd_take, rd_pLt, rd_pLe, rd_pGt, rd_pGe, rd_pTuple1, rd_pTuple2, rd_pStr1, rd_pStr2, rd_pInt, rd_pIntS, rd_pIntB, rd_pOrd, rd_pMax, rd_pSplit, rd_pPart, rd_stO, rd_pCutS, rd_solB, rd_pIn1, rd_pNotIn1, rd_pIn2, rd_pIn3, rd_pNotIn2, rd_pNotIn3, rd_pBls, rd_pJoin2, rd_at0, rd_at1, rd_at2, rd_at3, rd_atL, rd_ixL, rd_pRepr, rd_pGt2, rd_pLt2]
        have rb : (recL k t).length ≤ 200000 := by omega
        have tb := (match_w hm (by rw [List.length_drop]; omega)).2.1
        simp only [c_rec, SX.S_len, S_cps, h3, h5, h6, h7, h8, sSeq, sSet, sIf, sRet, sRetN, sNext, sBreak, sCont, sDrop, sNever, sAsg, sPar, sAug, sApp, sExt, sSetI, sForI, sWhile, sMid, sTry, sRaise, qVar, qC, qOp, qUn, qB, qAnd, qOr, qNot, qAndV, qOrV, qNotV, qIf, qNil, qCons, qCB, qTup, qLst, qCut, qPart, qNo, qM1, qM0, qCall, qChain, qXf, eQ, eVar, eC, eOp, eUn, eIf, eNil, eCons, eCB, eTup, eLst, eO, eCut, eM1, eM0, ePop, eIxV, eAnd, eOr, eNot, eAndV, eOrV, eNotV, eChain, eCutE, eNo, ePart, oSu, iS, tB', tQ, tYes', oE, oLst, oMove, oIf, oCall, oSt, oComp, iL, iT, iR1, iR2, gN, gT, gsNil, gsCons, cNil, cVal, cRef, free_0, free_succ, ends, outs, nils, resolve, putBack, allRef, refs, wipeE, pIsN, pNotN, pEq, pNe, eqOk_ii, eqOk_ss, eqOk_bb, eqOk_ni, eqOk_in, frS_frz, frS_own, frS_nil, List.replicate, List.getElem?_cons_zero, List.getElem?_cons_succ, List.set_cons_zero, List.set_cons_succ, List.cons_append, List.nil_append, List.length_cons, List.length_nil, List.take_succ_cons, List.take_zero, List.map_cons, List.map_nil, true_and, and_true, D.int.injEq, D.str.injEq, D.lst.injEq, decide_eq_true_eq, ite_true, ite_false, if_true, if_false, reduceIte, Bool.false_eq_true, false_and, and_false, Bool.not_true, Bool.not_false, Option.some.injEq, exists_eq_left', exists_eq_left, exists_and_left, List.nodup_cons, List.nodup_nil, List.not_mem_nil, not_false_eq_true, List.mem_cons, or_false, false_or, forall_eq, forall_eq_or_imp, Slot.own.injEq, Slot.par.injEq, Slot.frz.injEq, reduceCtorEq, exists_eq', exists_eq, exists_false, decide_true, decide_false, or_self, false_implies, implies_true, forall_const, eq_self, rd_lkL1, rd_lkL2, rd_lkL3, rd_lkE1, rd_lkE2, rd_thE1, rd_thE2, rd_lkF1, rd_lkX1, rd_lkX2, rd_lkX3, rd_mvS1, rd_mvS2, rd_mvE1, rd_mvE2, rd_lsO1, rd_lsO2, rd_tpO1, rd_sol1, rd_sol2, rd_sol3, rd_sol4, rd_sol5, rd_sol6, rd_sol7, rd_flat1, rd_flat2, rd_flat3, rd_flat4, rd_flat5, rd_asD1, rd_asD2, rd_asQ1, rd_asQ2, rd_asB, rd_asI, rd_p1, rd_p2, rd_pI0, rd_pI2, rd_pU, rd_pAdd1, rd_pAdd2, rd_pAdd3, rd_pAdd4, rd_pMul1, rd_pMul2, rd_pMul3, rd_pLen1, rd_pLen2, rd_pLen3, rd_pInt1, rd_pAbs, rd_pList1, rd_pList2, rd_pList3, rd_pCut1, rd_pCut2, rd_pCut3, rd_non1, rd_non2, rd_non3, rd_non4, rd_non5, rd_non6, rd_isStr, rd_pIx1, rd_pIx2, rd_pIx3, rd_pJoin1, rd_upS1, rd_upS2, rd_out1, rd_out2, rd_out3, rd_out4, rd_asL1, rd_asL2, rd_putL1, rd_putL2, rd_stA, rd_isi1, rd_isi2, rd_isi3, rd_isi4, rd_isX, rd_draw, rd_take, rd_pLt, rd_pLe, rd_pGt, rd_pGe, rd_pTuple1, rd_pTuple2, rd_pStr1, rd_pStr2, rd_pInt, rd_pIntS, rd_pIntB, rd_pOrd, rd_pMax, rd_pSplit, rd_pPart, rd_stO, rd_pCutS, rd_solB, rd_pIn1, rd_pNotIn1, rd_pIn2, rd_pIn3, rd_pNotIn2, rd_pNotIn3, rd_pBls, rd_pJoin2, rd_at0, rd_at1, rd_at2, rd_at3, rd_atL, rd_ixL, rd_pRepr, rd_pGt2, rd_pLt2]
        refine ⟨by omega, by have := hm.1; omega, tb, by omega, rs ++ [(k, t)], a + (recL k t).length, x3, Pu.Slot.frz (D.tup [D.int k, D.str (SX.S t)]), x5, x6, x7, x8, ?_, h3, rfl, h5, h6, h7, h8, by omega, by simp; omega, by omega, told_next hm hr⟩
        simp [recD]
  · rw [rng_len] at hi
    simp only [sSeq, sSet, sIf, sRet, sRetN, sNext, sBreak, sCont, sDrop, sNever, sAsg, sPar, sAug, sApp, sExt, sSetI, sForI, sWhile, sMid, sTry, sRaise, qVar, qC, qOp, qUn, qB, qAnd, qOr, qNot, qAndV, qOrV, qNotV, qIf, qNil, qCons, qCB, qTup, qLst, qCut, qPart, qNo, qM1, qM0, qCall, qChain, qXf, eQ, eVar, eC, eOp, eUn, eIf, eNil, eCons, eCB, eTup, eLst, eO, eCut, eM1, eM0, ePop, eIxV, eAnd, eOr, eNot, eAndV, eOrV, eNotV, eChain, eCutE, eNo, ePart, oSu, iS, tB', tQ, tYes', oE, oLst, oMove, oIf, oCall, oSt, oComp, iL, iT, iR1, iR2, gN, gT, gsNil, gsCons, cNil, cVal, cRef, free_0, free_succ, ends, outs, nils, resolve, putBack, allRef, refs, wipeE, pIsN, pNotN, pEq, pNe, eqOk_ii, eqOk_ss, eqOk_bb, eqOk_ni, eqOk_in, frS_frz, frS_own, frS_nil, List.replicate, List.getElem?_cons_zero, List.getElem?_cons_succ, List.set_cons_zero, List.set_cons_succ, List.cons_append, List.nil_append, List.length_cons, List.length_nil, List.take_succ_cons, List.take_zero, List.map_cons, List.map_nil, true_and, and_true, D.int.injEq, D.str.injEq, D.lst.injEq, decide_eq_true_eq, ite_true, ite_false, if_true, if_false, reduceIte, Bool.false_eq_true, false_and, and_false, Bool.not_true, Bool.not_false, Option.some.injEq, exists_eq_left', exists_eq_left, exists_and_left, List.nodup_cons, List.nodup_nil, List.not_mem_nil, not_false_eq_true, List.mem_cons, or_false, false_or, forall_eq, forall_eq_or_imp, Slot.own.injEq, Slot.par.injEq, Slot.frz.injEq, reduceCtorEq, exists_eq', exists_eq, exists_false, decide_true, decide_false, or_self, false_implies, implies_true, forall_const, eq_self, rd_lkL1, rd_lkL2, rd_lkL3, rd_lkE1, rd_lkE2, rd_thE1, rd_thE2, rd_lkF1, rd_lkX1, rd_lkX2, rd_lkX3, rd_mvS1, rd_mvS2, rd_mvE1, rd_mvE2, rd_lsO1, rd_lsO2, rd_tpO1, rd_sol1, rd_sol2, rd_sol3, rd_sol4, rd_sol5, rd_sol6, rd_sol7, rd_flat1, rd_flat2, rd_flat3, rd_flat4, rd_flat5, rd_asD1, rd_asD2, rd_asQ1, rd_asQ2, rd_asB, rd_asI, rd_p1, rd_p2, rd_pI0, rd_pI2, rd_pU, rd_pAdd1, rd_pAdd2, rd_pAdd3, rd_pAdd4, rd_pMul1, rd_pMul2, rd_pMul3, rd_pLen1, rd_pLen2, rd_pLen3, rd_pInt1, rd_pAbs, rd_pList1, rd_pList2, rd_pList3, rd_pCut1, rd_pCut2, rd_pCut3, rd_non1, rd_non2, rd_non3, rd_non4, rd_non5, rd_non6, rd_isStr, rd_pIx1, rd_pIx2, rd_pIx3, rd_pJoin1, rd_upS1, rd_upS2, rd_out1, rd_out2, rd_out3, rd_out4, rd_asL1, rd_asL2, rd_putL1, rd_putL2, rd_stA, rd_isi1, rd_isi2, rd_isi3, rd_isi4, rd_isX, rd_draw, rd_take, rd_pLt, rd_pLe, rd_pGt, rd_pGe, rd_pTuple1, rd_pTuple2, rd_pStr1, rd_pStr2, rd_pInt, rd_pIntS, rd_pIntB, rd_pOrd, rd_pMax, rd_pSplit, rd_pPart, rd_stO, rd_pCutS, rd_solB, rd_pIn1, rd_pNotIn1, rd_pIn2, rd_pIn3, rd_pNotIn2, rd_pNotIn3, rd_pBls, rd_pJoin2, rd_at0, rd_at1, rd_at2, rd_at3, rd_atL, rd_ixL, rd_pRepr, rd_pGt2, rd_pLt2]
    have hn : ∀ k t, ¬ Match (x.drop a) k t := fun k t m => by
      have := match_len m
      rw [List.length_drop] at this
      omega
    have := h _ _ (hr [] 0 (.nil hn))
    rw [List.append_nil, Nat.add_zero] at this
    exact ⟨by omega, this⟩
theorem mul1 {c : Nat} {n : Int} {x : Str} (hx : x = ⟨#[c]⟩) : Txt.mul x n = ⟨(List.replicate n.toNat c).toArray⟩ := by
  subst hx
  exact TL.ext_tl (by rw [TL.tl, PyProof.Rows.mul_one_list])
def dataL (rows : List (Nat × List Nat)) : List Nat := (rows.map fun r => recL r.1 r.2).flatten
def okRow (r : Nat × List Nat) : Prop := (r.1 = 1 ∨ r.1 = 2 ∨ r.1 = 3) ∧ r.2.length ≤ 120 ∧ ∀ c ∈ r.2, c < 128
theorem no_nil : ∀ k t, ¬ Match [] k t := fun k t m => by
  have := match_len m
  rw [List.length_nil] at this
  omega
theorem data_reads : ∀ rows : List (Nat × List Nat), (∀ r ∈ rows, okRow r) → Reads (dataL rows) rows (dataL rows).length
  | [], _ => .nil no_nil
  | r :: rows, h => by
    have ih := data_reads rows fun x hx => h x (by simp [hx])
    have e : dataL (r :: rows) = recL r.1 r.2 ++ dataL rows := by simp [dataL]
    rw [e, List.length_append]
    exact .cons ⟨(h r (by simp)).1, _, rfl⟩ (by rw [List.drop_left]; exact ih)
theorem data_len : ∀ rows : List (Nat × List Nat), (∀ r ∈ rows, okRow r) → (dataL rows).length ≤ rows.length * 141 ∧ ∀ c ∈ dataL rows, c < 128
  | [], _ => by simp [dataL]
  | r :: rows, h => by
    obtain ⟨i1, i2⟩ := data_len rows fun x hx => h x (by simp [hx])
    have e : dataL (r :: rows) = recL r.1 r.2 ++ dataL rows := by simp [dataL]
    obtain ⟨h1, h2, h3⟩ := h r (by simp)
    have rl := rec_len (k := r.1) (t := r.2) (by omega) (by omega)
    rw [e]
    refine ⟨by rw [List.length_append, List.length_cons]; omega, fun c hc => ?_⟩
    rcases List.mem_append.mp hc with hc | hc
    · exact rec_chars h3 c hc
    · exact i2 c hc
theorem data_snoc (rows : List (Nat × List Nat)) (k : Nat) (t : List Nat) : dataL rows ++ recL k t = dataL (rows ++ [(k, t)]) := by simp [dataL]
theorem reads_chars {l : List Nat} {rs : List (Nat × List Nat)} {m : Nat} (h : Reads l rs m) : ∀ r ∈ rs, ∀ c ∈ r.2, c ∈ l := by
  induction h with
  | nil h => simp
  | @cons l k t rs m hm r ih =>
    intro r hr c hc
    rcases List.mem_cons.mp hr with rfl | hr
    · obtain ⟨_, q, e⟩ := hm
      rw [← e]
      unfold recL bodyL
      simp [hc]
    · exact List.mem_of_mem_drop (ih r hr c hc)
theorem ok_reads {l : List Nat} {rs : List (Nat × List Nat)} {m n : Nat} (h : Reads l rs m) (hc : ∀ c ∈ l, c < 128) : D.ok 60 (.tup [.lst (rs.map recD), .int n]) := by
  simp only [ok_tup, List.forall_mem_cons, ok_lst, ok_int, List.forall_mem_map, recD, ok_str]
  exact ⟨fun r hr => ⟨trivial, okStr_of fun c hcc => hc c (reads_chars h r hr c hcc), by simp⟩, trivial, by simp⟩
def I1 (ns : List Int) (i : Nat) (env : Pu.Env) : Prop := ∃ (rows : List (Nat × List Nat)) (x4 x5 x6 x7 : Pu.Slot), env = [.frz (.scr ns), .own stA, .frz (.str (SX.S (dataL rows))), .own (.lst (rows.map recD)), x4, x5, x6, x7, .nil, .nil, .nil] ∧ frS x4 = true ∧ frS x5 = true ∧ frS x6 = true ∧ frS x7 = true ∧ rows.length = i ∧ ∀ r ∈ rows, okRow r
def I2 (ns : List Int) (data : List Nat) (i : Nat) (env : Pu.Env) : Prop := ∃ (x3 x4 x5 x6 x7 x8 x9 x10 : Pu.Slot), env = [.frz (.scr ns), .own stA, .frz (.str (SX.S data)), x3, x4, x5, x6, x7, x8, x9, x10] ∧ frS x4 = true ∧ frS x7 = true ∧ frS x8 = true ∧ frS x9 = true ∧ frS x10 = true
theorem pp_law : ∀ as Q X, psLaw as Q X → p_law (ends 1 Q) (as ++ nils (11 - as.length)) := by
  rintro as Q X ⟨ns, rfl, hl, h⟩
  have e2 := big
  obtain ⟨l1, l2, l3, l4, l5⟩ := lits
  simp only [p_law, c_state, sSeq, sSet, sIf, sRet, sRetN, sNext, sBreak, sCont, sDrop, sNever, sAsg, sPar, sAug, sApp, sExt, sSetI, sForI, sWhile, sMid, sTry, sRaise, qVar, qC, qOp, qUn, qB, qAnd, qOr, qNot, qAndV, qOrV, qNotV, qIf, qNil, qCons, qCB, qTup, qLst, qCut, qPart, qNo, qM1, qM0, qCall, qChain, qXf, eQ, eVar, eC, eOp, eUn, eIf, eNil, eCons, eCB, eTup, eLst, eO, eCut, eM1, eM0, ePop, eIxV, eAnd, eOr, eNot, eAndV, eOrV, eNotV, eChain, eCutE, eNo, ePart, oSu, iS, tB', tQ, tYes', oE, oLst, oMove, oIf, oCall, oSt, oComp, iL, iT, iR1, iR2, gN, gT, gsNil, gsCons, cNil, cVal, cRef, free_0, free_succ, ends, outs, nils, resolve, putBack, allRef, refs, wipeE, pIsN, pNotN, pEq, pNe, eqOk_ii, eqOk_ss, eqOk_bb, eqOk_ni, eqOk_in, frS_frz, frS_own, frS_nil, List.replicate, List.getElem?_cons_zero, List.getElem?_cons_succ, List.set_cons_zero, List.set_cons_succ, List.cons_append, List.nil_append, List.length_cons, List.length_nil, List.take_succ_cons, List.take_zero, List.map_cons, List.map_nil, true_and, and_true, D.int.injEq, D.str.injEq, D.lst.injEq, decide_eq_true_eq, ite_true, ite_false, if_true, if_false, reduceIte, Bool.false_eq_true, false_and, and_false, Bool.not_true, Bool.not_false, Option.some.injEq, exists_eq_left', exists_eq_left, exists_and_left, List.nodup_cons, List.nodup_nil, List.not_mem_nil, not_false_eq_true, List.mem_cons, or_false, false_or, forall_eq, forall_eq_or_imp, Slot.own.injEq, Slot.par.injEq, Slot.frz.injEq, reduceCtorEq, exists_eq', exists_eq, exists_false, decide_true, decide_false, or_self, false_implies, implies_true, forall_const, eq_self, rd_lkL1, rd_lkL2, rd_lkL3, rd_lkE1, rd_lkE2, rd_thE1, rd_thE2, rd_lkF1, rd_lkX1, rd_lkX2, rd_lkX3, rd_mvS1, rd_mvS2, rd_mvE1, rd_mvE2, rd_lsO1, rd_lsO2, rd_tpO1, rd_sol1, rd_sol2, rd_sol3, rd_sol4, rd_sol5, rd_sol6, rd_sol7, rd_flat1, rd_flat2, rd_flat3, rd_flat4, rd_flat5, rd_asD1, rd_asD2, rd_asQ1, rd_asQ2, rd_asB, rd_asI, rd_p1, rd_p2, rd_pI0, rd_pI2, rd_pU, rd_pAdd1, rd_pAdd2, rd_pAdd3, rd_pAdd4, rd_pMul1, rd_pMul2, rd_pMul3, rd_pLen1, rd_pLen2, rd_pLen3, rd_pInt1, rd_pAbs, rd_pList1, rd_pList2, rd_pList3, rd_pCut1, rd_pCut2, rd_pCut3, rd_non1, rd_non2, rd_non3, rd_non4, rd_non5, rd_non6, rd_isStr, rd_pIx1, rd_pIx2, rd_pIx3, rd_pJoin1, rd_upS1, rd_upS2, rd_out1, rd_out2, rd_out3, rd_out4, rd_asL1, rd_asL2, rd_putL1, rd_putL2, rd_stA, rd_isi1, rd_isi2, rd_isi3, rd_isi4, rd_isX, rd_draw, rd_take, rd_pLt, rd_pLe, rd_pGt, rd_pGe, rd_pTuple1, rd_pTuple2, rd_pStr1, rd_pStr2, rd_pInt, rd_pIntS, rd_pIntB, rd_pOrd, rd_pMax, rd_pSplit, rd_pPart, rd_stO, rd_pCutS, rd_solB, rd_pIn1, rd_pNotIn1, rd_pIn2, rd_pIn3, rd_pNotIn2, rd_pNotIn3, rd_pBls, rd_pJoin2, rd_at0, rd_at1, rd_at2, rd_at3, rd_atL, rd_ixL, rd_pRepr, rd_pGt2, rd_pLt2]
  refine ⟨hl, by omega, by omega, fun v v0 v1 => ⟨by omega, I1 ns, ⟨[], .nil, .nil, .nil, .nil, by rw [l4]; rfl, rfl, rfl, rfl, rfl, rfl, by simp⟩, ?_⟩⟩
  rintro i env ⟨rows, x4, x5, x6, x7, rfl, h4, h5, h6, h7, hri, hro⟩
  refine ⟨fun d hd => ?_, fun hi => ?_⟩
  · obtain ⟨hi, rfl⟩ := rng_get hd
    simp only [h4, h5, h6, h7, c_pick, sSeq, sSet, sIf, sRet, sRetN, sNext, sBreak, sCont, sDrop, sNever, sAsg, sPar, sAug, sApp, sExt, sSetI, sForI, sWhile, sMid, sTry, sRaise, qVar, qC, qOp, qUn, qB, qAnd, qOr, qNot, qAndV, qOrV, qNotV, qIf, qNil, qCons, qCB, qTup, qLst, qCut, qPart, qNo, qM1, qM0, qCall, qChain, qXf, eQ, eVar, eC, eOp, eUn, eIf, eNil, eCons, eCB, eTup, eLst, eO, eCut, eM1, eM0, ePop, eIxV, eAnd, eOr, eNot, eAndV, eOrV, eNotV, eChain, eCutE, eNo, ePart, oSu, iS, tB', tQ, tYes', oE, oLst, oMove, oIf, oCall, oSt, oComp, iL, iT, iR1, iR2, gN, gT, gsNil, gsCons, cNil, cVal, cRef, free_0, free_succ, ends, outs, nils, resolve, putBack, allRef, refs, wipeE, pIsN, pNotN, pEq, pNe, eqOk_ii, eqOk_ss, eqOk_bb, eqOk_ni, eqOk_in, frS_frz, frS_own, frS_nil, List.replicate, List.getElem?_cons_zero, List.getElem?_cons_succ, List.set_cons_zero, List.set_cons_succ, List.cons_append, List.nil_append, List.length_cons, List.length_nil, List.take_succ_cons, List.take_zero, List.map_cons, List.map_nil, true_and, and_true, D.int.injEq, D.str.injEq, D.lst.injEq, decide_eq_true_eq, ite_true, ite_false, if_true, if_false, reduceIte, Bool.false_eq_true, false_and, and_false, Bool.not_true, Bool.not_false, Option.some.injEq, exists_eq_left', exists_eq_left, exists_and_left, List.nodup_cons, List.nodup_nil, List.not_mem_nil, not_false_eq_true, List.mem_cons, or_false, false_or, forall_eq, forall_eq_or_imp, Slot.own.injEq, Slot.par.injEq, Slot.frz.injEq, reduceCtorEq, exists_eq', exists_eq, exists_false, decide_true, decide_false, or_self, false_implies, implies_true, forall_const, eq_self, rd_lkL1, rd_lkL2, rd_lkL3, rd_lkE1, rd_lkE2, rd_thE1, rd_thE2, rd_lkF1, rd_lkX1, rd_lkX2, rd_lkX3, rd_mvS1, rd_mvS2, rd_mvE1, rd_mvE2, rd_lsO1, rd_lsO2, rd_tpO1, rd_sol1, rd_sol2, rd_sol3, rd_sol4, rd_sol5, rd_sol6, rd_sol7, rd_flat1, rd_flat2, rd_flat3, rd_flat4, rd_flat5, rd_asD1, rd_asD2, rd_asQ1, rd_asQ2, rd_asB, rd_asI, rd_p1, rd_p2, rd_pI0, rd_pI2, rd_pU, rd_pAdd1, rd_pAdd2, rd_pAdd3, rd_pAdd4, rd_pMul1, rd_pMul2, rd_pMul3, rd_pLen1, rd_pLen2, rd_pLen3, rd_pInt1, rd_pAbs, rd_pList1, rd_pList2, rd_pList3, rd_pCut1, rd_pCut2, rd_pCut3, rd_non1, rd_non2, rd_non3, rd_non4, rd_non5, rd_non6, rd_isStr, rd_pIx1, rd_pIx2, rd_pIx3, rd_pJoin1, rd_upS1, rd_upS2, rd_out1, rd_out2, rd_out3, rd_out4, rd_asL1, rd_asL2, rd_putL1, rd_putL2, rd_stA, rd_isi1, rd_isi2, rd_isi3, rd_isi4, rd_isX, rd_draw, rd_take, rd_pLt, rd_pLe, rd_pGt, rd_pGe, rd_pTuple1, rd_pTuple2, rd_pStr1, rd_pStr2, rd_pInt, rd_pIntS, rd_pIntB, rd_pOrd, rd_pMax, rd_pSplit, rd_pPart, rd_stO, rd_pCutS, rd_solB, rd_pIn1, rd_pNotIn1, rd_pIn2, rd_pIn3, rd_pNotIn2, rd_pNotIn3, rd_pBls, rd_pJoin2, rd_at0, rd_at1, rd_at2, rd_at3, rd_atL, rd_ixL, rd_pRepr, rd_pGt2, rd_pLt2]
    refine ⟨by omega, by simp, by omega, fun d hd => ?_⟩
    obtain ⟨k, hk, rfl⟩ : ∃ k : Nat, (k = 1 ∨ k = 2 ∨ k = 3) ∧ d = .int k := by
      simp only [List.mem_cons, List.not_mem_nil, or_false] at hd
      rcases hd with rfl | rfl | rfl | rfl
      · exact ⟨1, by omega, rfl⟩
      · exact ⟨2, by omega, rfl⟩
      · exact ⟨2, by omega, rfl⟩
      · exact ⟨3, by omega, rfl⟩
    rw [show D.int 3 = D.int ((3 : Nat) : Int) from rfl]
    simp only [h6, h7, c_rec, l4, S_cps, SX.S_len, sSeq, sSet, sIf, sRet, sRetN, sNext, sBreak, sCont, sDrop, sNever, sAsg, sPar, sAug, sApp, sExt, sSetI, sForI, sWhile, sMid, sTry, sRaise, qVar, qC, qOp, qUn, qB, qAnd, qOr, qNot, qAndV, qOrV, qNotV, qIf, qNil, qCons, qCB, qTup, qLst, qCut, qPart, qNo, qM1, qM0, qCall, qChain, qXf, eQ, eVar, eC, eOp, eUn, eIf, eNil, eCons, eCB, eTup, eLst, eO, eCut, eM1, eM0, ePop, eIxV, eAnd, eOr, eNot, eAndV, eOrV, eNotV, eChain, eCutE, eNo, ePart, oSu, iS, tB', tQ, tYes', oE, oLst, oMove, oIf, oCall, oSt, oComp, iL, iT, iR1, iR2, gN, gT, gsNil, gsCons, cNil, cVal, cRef, free_0, free_succ, ends, outs, nils, resolve, putBack, allRef, refs, wipeE, pIsN, pNotN, pEq, pNe, eqOk_ii, eqOk_ss, eqOk_bb, eqOk_ni, eqOk_in, frS_frz, frS_own, frS_nil, List.replicate, List.getElem?_cons_zero, List.getElem?_cons_succ, List.set_cons_zero, List.set_cons_succ, List.cons_append, List.nil_append, List.length_cons, List.length_nil, List.take_succ_cons, List.take_zero, List.map_cons, List.map_nil, true_and, and_true, D.int.injEq, D.str.injEq, D.lst.injEq, decide_eq_true_eq, ite_true, ite_false, if_true, if_false, reduceIte, Bool.false_eq_true, false_and, and_false, Bool.not_true, Bool.not_false, Option.some.injEq, exists_eq_left', exists_eq_left, exists_and_left, List.nodup_cons, List.nodup_nil, List.not_mem_nil, not_false_eq_true, List.mem_cons, or_false, false_or, forall_eq, forall_eq_or_imp, Slot.own.injEq, Slot.par.injEq, Slot.frz.injEq, reduceCtorEq, exists_eq', exists_eq, exists_false, decide_true, decide_false, or_self, false_implies, implies_true, forall_const, eq_self, rd_lkL1, rd_lkL2, rd_lkL3, rd_lkE1, rd_lkE2, rd_thE1, rd_thE2, rd_lkF1, rd_lkX1, rd_lkX2, rd_lkX3, rd_mvS1, rd_mvS2, rd_mvE1, rd_mvE2, rd_lsO1, rd_lsO2, rd_tpO1, rd_sol1, rd_sol2, rd_sol3, rd_sol4, rd_sol5, rd_sol6, rd_sol7, rd_flat1, rd_flat2, rd_flat3, rd_flat4, rd_flat5, rd_asD1, rd_asD2, rd_asQ1, rd_asQ2, rd_asB, rd_asI, rd_p1, rd_p2, rd_pI0, rd_pI2, rd_pU, rd_pAdd1, rd_pAdd2, rd_pAdd3, rd_pAdd4, rd_pMul1, rd_pMul2, rd_pMul3, rd_pLen1, rd_pLen2, rd_pLen3, rd_pInt1, rd_pAbs, rd_pList1, rd_pList2, rd_pList3, rd_pCut1, rd_pCut2, rd_pCut3, rd_non1, rd_non2, rd_non3, rd_non4, rd_non5, rd_non6, rd_isStr, rd_pIx1, rd_pIx2, rd_pIx3, rd_pJoin1, rd_upS1, rd_upS2, rd_out1, rd_out2, rd_out3, rd_out4, rd_asL1, rd_asL2, rd_putL1, rd_putL2, rd_stA, rd_isi1, rd_isi2, rd_isi3, rd_isi4, rd_isX, rd_draw, rd_take, rd_pLt, rd_pLe, rd_pGt, rd_pGe, rd_pTuple1, rd_pTuple2, rd_pStr1, rd_pStr2, rd_pInt, rd_pIntS, rd_pIntB, rd_pOrd, rd_pMax, rd_pSplit, rd_pPart, rd_stO, rd_pCutS, rd_solB, rd_pIn1, rd_pNotIn1, rd_pIn2, rd_pIn3, rd_pNotIn2, rd_pNotIn3, rd_pBls, rd_pJoin2, rd_at0, rd_at1, rd_at2, rd_at3, rd_atL, rd_ixL, rd_pRepr, rd_pGt2, rd_pLt2]
    refine ⟨by omega, by omega, by omega, fun u u0 u1 => ?_⟩
    simp only [c_pick, sSeq, sSet, sIf, sRet, sRetN, sNext, sBreak, sCont, sDrop, sNever, sAsg, sPar, sAug, sApp, sExt, sSetI, sForI, sWhile, sMid, sTry, sRaise, qVar, qC, qOp, qUn, qB, qAnd, qOr, qNot, qAndV, qOrV, qNotV, qIf, qNil, qCons, qCB, qTup, qLst, qCut, qPart, qNo, qM1, qM0, qCall, qChain, qXf, eQ, eVar, eC, eOp, eUn, eIf, eNil, eCons, eCB, eTup, eLst, eO, eCut, eM1, eM0, ePop, eIxV, eAnd, eOr, eNot, eAndV, eOrV, eNotV, eChain, eCutE, eNo, ePart, oSu, iS, tB', tQ, tYes', oE, oLst, oMove, oIf, oCall, oSt, oComp, iL, iT, iR1, iR2, gN, gT, gsNil, gsCons, cNil, cVal, cRef, free_0, free_succ, ends, outs, nils, resolve, putBack, allRef, refs, wipeE, pIsN, pNotN, pEq, pNe, eqOk_ii, eqOk_ss, eqOk_bb, eqOk_ni, eqOk_in, frS_frz, frS_own, frS_nil, List.replicate, List.getElem?_cons_zero, List.getElem?_cons_succ, List.set_cons_zero, List.set_cons_succ, List.cons_append, List.nil_append, List.length_cons, List.length_nil, List.take_succ_cons, List.take_zero, List.map_cons, List.map_nil, true_and, and_true, D.int.injEq, D.str.injEq, D.lst.injEq, decide_eq_true_eq, ite_true, ite_false, if_true, if_false, reduceIte, Bool.false_eq_true, false_and, and_false, Bool.not_true, Bool.not_false, Option.some.injEq, exists_eq_left', exists_eq_left, exists_and_left, List.nodup_cons, List.nodup_nil, List.not_mem_nil, not_false_eq_true, List.mem_cons, or_false, false_or, forall_eq, forall_eq_or_imp, Slot.own.injEq, Slot.par.injEq, Slot.frz.injEq, reduceCtorEq, exists_eq', exists_eq, exists_false, decide_true, decide_false, or_self, false_implies, implies_true, forall_const, eq_self, rd_lkL1, rd_lkL2, rd_lkL3, rd_lkE1, rd_lkE2, rd_thE1, rd_thE2, rd_lkF1, rd_lkX1, rd_lkX2, rd_lkX3, rd_mvS1, rd_mvS2, rd_mvE1, rd_mvE2, rd_lsO1, rd_lsO2, rd_tpO1, rd_sol1, rd_sol2, rd_sol3, rd_sol4, rd_sol5, rd_sol6, rd_sol7, rd_flat1, rd_flat2, rd_flat3, rd_flat4, rd_flat5, rd_asD1, rd_asD2, rd_asQ1, rd_asQ2, rd_asB, rd_asI, rd_p1, rd_p2, rd_pI0, rd_pI2, rd_pU, rd_pAdd1, rd_pAdd2, rd_pAdd3, rd_pAdd4, rd_pMul1, rd_pMul2, rd_pMul3, rd_pLen1, rd_pLen2, rd_pLen3, rd_pInt1, rd_pAbs, rd_pList1, rd_pList2, rd_pList3, rd_pCut1, rd_pCut2, rd_pCut3, rd_non1, rd_non2, rd_non3, rd_non4, rd_non5, rd_non6, rd_isStr, rd_pIx1, rd_pIx2, rd_pIx3, rd_pJoin1, rd_upS1, rd_upS2, rd_out1, rd_out2, rd_out3, rd_out4, rd_asL1, rd_asL2, rd_putL1, rd_putL2, rd_stA, rd_isi1, rd_isi2, rd_isi3, rd_isi4, rd_isX, rd_draw, rd_take, rd_pLt, rd_pLe, rd_pGt, rd_pGe, rd_pTuple1, rd_pTuple2, rd_pStr1, rd_pStr2, rd_pInt, rd_pIntS, rd_pIntB, rd_pOrd, rd_pMax, rd_pSplit, rd_pPart, rd_stO, rd_pCutS, rd_solB, rd_pIn1, rd_pNotIn1, rd_pIn2, rd_pIn3, rd_pNotIn2, rd_pNotIn3, rd_pBls, rd_pJoin2, rd_at0, rd_at1, rd_at2, rd_at3, rd_atL, rd_ixL, rd_pRepr, rd_pGt2, rd_pLt2]
    have one : Str.ofString "x" = ⟨#[120]⟩ := by decide +kernel
    rw [mul1 one]
    refine ⟨by omega, by rw [one]; show 1 * u.toNat ≤ _; omega, by omega, by simp, by omega, fun d hd => ?_⟩
    obtain ⟨t, ht1, ht2, rfl⟩ : ∃ t : List Nat, t.length ≤ 120 ∧ (∀ c ∈ t, c < 128) ∧ d = .str (SX.S t) := by
      simp only [List.mem_cons, List.not_mem_nil, or_false] at hd
      rcases hd with rfl | rfl | rfl | rfl | rfl | rfl | rfl
      · exact ⟨[], by simp, by simp, rfl⟩
      · exact ⟨[97], by simp, by simp, rfl⟩
      · exact ⟨_, by decide +kernel, by decide +kernel, congrArg D.str (S_of _)⟩
      · exact ⟨_, by have := rec_len (k := 3) (t := []) (by omega) (by simp); simp at this; omega, rec_chars (by simp), rfl⟩
      · exact ⟨List.replicate u.toNat 120, by simp; omega, fun c hc => by rw [(List.mem_replicate.mp hc).2]; omega, rfl⟩
      · exact ⟨_, by decide +kernel, by decide +kernel, congrArg D.str (S_of _)⟩
      · exact ⟨_, by decide +kernel, by decide +kernel, congrArg D.str (S_of _)⟩
    have hrow : okRow (k, t) := ⟨hk, ht1, ht2⟩
    have hrl := rec_len (k := k) (t := t) (by omega) (by omega)
    have hdl := data_len rows hro
    have c_rt : ∀ {Q : Pu.Slot → Pu.Env → Prop} {X : XP}, ps_record_text [.frz (.int k), .frz (.str (SX.S t))] Q X ↔ _ := c_rec (k := k) (t := SX.S t)
    simp only [h6, h7, c_rt, c_rec, S_cps, SX.S_len, S_app, data_snoc, List.length_map, sSeq, sSet, sIf, sRet, sRetN, sNext, sBreak, sCont, sDrop, sNever, sAsg, sPar, sAug, sApp, sExt, sSetI, sForI, sWhile, sMid, sTry, sRaise, qVar, qC, qOp, qUn, qB, qAnd, qOr, qNot, qAndV, qOrV, qNotV, qIf, qNil, qCons, qCB, qTup, qLst, qCut, qPart, qNo, qM1, qM0, qCall, qChain, qXf, eQ, eVar, eC, eOp, eUn, eIf, eNil, eCons, eCB, eTup, eLst, eO, eCut, eM1, eM0, ePop, eIxV, eAnd, eOr, eNot, eAndV, eOrV, eNotV, eChain, eCutE, eNo, ePart, oSu, iS, tB', tQ, tYes', oE, oLst, oMove, oIf, oCall, oSt, oComp, iL, iT, iR1, iR2, gN, gT, gsNil, gsCons, cNil, cVal, cRef, free_0, free_succ, ends, outs, nils, resolve, putBack, allRef, refs, wipeE, pIsN, pNotN, pEq, pNe, eqOk_ii, eqOk_ss, eqOk_bb, eqOk_ni, eqOk_in, frS_frz, frS_own, frS_nil, List.replicate, List.getElem?_cons_zero, List.getElem?_cons_succ, List.set_cons_zero, List.set_cons_succ, List.cons_append, List.nil_append, List.length_cons, List.length_nil, List.take_succ_cons, List.take_zero, List.map_cons, List.map_nil, true_and, and_true, D.int.injEq, D.str.injEq, D.lst.injEq, decide_eq_true_eq, ite_true, ite_false, if_true, if_false, reduceIte, Bool.false_eq_true, false_and, and_false, Bool.not_true, Bool.not_false, Option.some.injEq, exists_eq_left', exists_eq_left, exists_and_left, List.nodup_cons, List.nodup_nil, List.not_mem_nil, not_false_eq_true, List.mem_cons, or_false, false_or, forall_eq, forall_eq_or_imp, Slot.own.injEq, Slot.par.injEq, Slot.frz.injEq, reduceCtorEq, exists_eq', exists_eq, exists_false, decide_true, decide_false, or_self, false_implies, implies_true, forall_const, eq_self, rd_lkL1, rd_lkL2, rd_lkL3, rd_lkE1, rd_lkE2, rd_thE1, rd_thE2, rd_lkF1, rd_lkX1, rd_lkX2, rd_lkX3, rd_mvS1, rd_mvS2, rd_mvE1, rd_mvE2, rd_lsO1, rd_lsO2, rd_tpO1, rd_sol1, rd_sol2, rd_sol3, rd_sol4, rd_sol5, rd_sol6, rd_sol7, rd_flat1, rd_flat2, rd_flat3, rd_flat4, rd_flat5, rd_asD1, rd_asD2, rd_asQ1, rd_asQ2, rd_asB, rd_asI, rd_p1, rd_p2, rd_pI0, rd_pI2, rd_pU, rd_pAdd1, rd_pAdd2, rd_pAdd3, rd_pAdd4, rd_pMul1, rd_pMul2, rd_pMul3, rd_pLen1, rd_pLen2, rd_pLen3, rd_pInt1, rd_pAbs, rd_pList1, rd_pList2, rd_pList3, rd_pCut1, rd_pCut2, rd_pCut3, rd_non1, rd_non2, rd_non3, rd_non4, rd_non5, rd_non6, rd_isStr, rd_pIx1, rd_pIx2, rd_pIx3, rd_pJoin1, rd_upS1, rd_upS2, rd_out1, rd_out2, rd_out3, rd_out4, rd_asL1, rd_asL2, rd_putL1, rd_putL2, rd_stA, rd_isi1, rd_isi2, rd_isi3, rd_isi4, rd_isX, rd_draw, rd_take, rd_pLt, rd_pLe, rd_pGt, rd_pGe, rd_pTuple1, rd_pTuple2, rd_pStr1, rd_pStr2, rd_pInt, rd_pIntS, rd_pIntB, rd_pOrd, rd_pMax, rd_pSplit, rd_pPart, rd_stO, rd_pCutS, rd_solB, rd_pIn1, rd_pNotIn1, rd_pIn2, rd_pIn3, rd_pNotIn2, rd_pNotIn3, rd_pBls, rd_pJoin2, rd_at0, rd_at1, rd_at2, rd_at3, rd_atL, rd_ixL, rd_pRepr, rd_pGt2, rd_pLt2]
    refine ⟨by omega, by omega, by omega, by omega, by omega, by omega, by omega, rows ++ [(k, t)], _, _, _, _, (by rw [List.map_append]; rfl), rfl, rfl, rfl, rfl, by simp; omega, fun r hr => ?_⟩
    rcases List.mem_append.mp hr with hr | hr
    · exact hro r hr
    · rw [List.mem_singleton] at hr
      subst hr
      exact hrow
  · rw [rng_len] at hi
    simp only [sSeq, sSet, sIf, sRet, sRetN, sNext, sBreak, sCont, sDrop, sNever, sAsg, sPar, sAug, sApp, sExt, sSetI, sForI, sWhile, sMid, sTry, sRaise, qVar, qC, qOp, qUn, qB, qAnd, qOr, qNot, qAndV, qOrV, qNotV, qIf, qNil, qCons, qCB, qTup, qLst, qCut, qPart, qNo, qM1, qM0, qCall, qChain, qXf, eQ, eVar, eC, eOp, eUn, eIf, eNil, eCons, eCB, eTup, eLst, eO, eCut, eM1, eM0, ePop, eIxV, eAnd, eOr, eNot, eAndV, eOrV, eNotV, eChain, eCutE, eNo, ePart, oSu, iS, tB', tQ, tYes', oE, oLst, oMove, oIf, oCall, oSt, oComp, iL, iT, iR1, iR2, gN, gT, gsNil, gsCons, cNil, cVal, cRef, free_0, free_succ, ends, outs, nils, resolve, putBack, allRef, refs, wipeE, pIsN, pNotN, pEq, pNe, eqOk_ii, eqOk_ss, eqOk_bb, eqOk_ni, eqOk_in, frS_frz, frS_own, frS_nil, List.replicate, List.getElem?_cons_zero, List.getElem?_cons_succ, List.set_cons_zero, List.set_cons_succ, List.cons_append, List.nil_append, List.length_cons, List.length_nil, List.take_succ_cons, List.take_zero, List.map_cons, List.map_nil, true_and, and_true, D.int.injEq, D.str.injEq, D.lst.injEq, decide_eq_true_eq, ite_true, ite_false, if_true, if_false, reduceIte, Bool.false_eq_true, false_and, and_false, Bool.not_true, Bool.not_false, Option.some.injEq, exists_eq_left', exists_eq_left, exists_and_left, List.nodup_cons, List.nodup_nil, List.not_mem_nil, not_false_eq_true, List.mem_cons, or_false, false_or, forall_eq, forall_eq_or_imp, Slot.own.injEq, Slot.par.injEq, Slot.frz.injEq, reduceCtorEq, exists_eq', exists_eq, exists_false, decide_true, decide_false, or_self, false_implies, implies_true, forall_const, eq_self, rd_lkL1, rd_lkL2, rd_lkL3, rd_lkE1, rd_lkE2, rd_thE1, rd_thE2, rd_lkF1, rd_lkX1, rd_lkX2, rd_lkX3, rd_mvS1, rd_mvS2, rd_mvE1, rd_mvE2, rd_lsO1, rd_lsO2, rd_tpO1, rd_sol1, rd_sol2, rd_sol3, rd_sol4, rd_sol5, rd_sol6, rd_sol7, rd_flat1, rd_flat2, rd_flat3, rd_flat4, rd_flat5, rd_asD1, rd_asD2, rd_asQ1, rd_asQ2, rd_asB, rd_asI, rd_p1, rd_p2, rd_pI0, rd_pI2, rd_pU, rd_pAdd1, rd_pAdd2, rd_pAdd3, rd_pAdd4, rd_pMul1, rd_pMul2, rd_pMul3, rd_pLen1, rd_pLen2, rd_pLen3, rd_pInt1, rd_pAbs, rd_pList1, rd_pList2, rd_pList3, rd_pCut1, rd_pCut2, rd_pCut3, rd_non1, rd_non2, rd_non3, rd_non4, rd_non5, rd_non6, rd_isStr, rd_pIx1, rd_pIx2, rd_pIx3, rd_pJoin1, rd_upS1, rd_upS2, rd_out1, rd_out2, rd_out3, rd_out4, rd_asL1, rd_asL2, rd_putL1, rd_putL2, rd_stA, rd_isi1, rd_isi2, rd_isi3, rd_isi4, rd_isX, rd_draw, rd_take, rd_pLt, rd_pLe, rd_pGt, rd_pGe, rd_pTuple1, rd_pTuple2, rd_pStr1, rd_pStr2, rd_pInt, rd_pIntS, rd_pIntB, rd_pOrd, rd_pMax, rd_pSplit, rd_pPart, rd_stO, rd_pCutS, rd_solB, rd_pIn1, rd_pNotIn1, rd_pIn2, rd_pIn3, rd_pNotIn2, rd_pNotIn3, rd_pBls, rd_pJoin2, rd_at0, rd_at1, rd_at2, rd_at3, rd_atL, rd_ixL, rd_pRepr, rd_pGt2, rd_pLt2]
    have hdl := data_len rows hro
    have hdr := data_reads rows hro
    have hrow5 : rows.length * 141 ≤ 705 := by omega
    refine c_reads.mpr ⟨by rw [SX.S_len]; omega, by rw [S_cps]; exact hdl.2, fun rs m hr => ?_⟩
    rw [S_cps] at hr
    obtain ⟨rfl, rfl⟩ := reads_one hr hdr
    have oke := ok_reads (n := (dataL rs).length) hdr hdl.2
    simp only [SX.S_len, eqOk_ok oke oke, sSeq, sSet, sIf, sRet, sRetN, sNext, sBreak, sCont, sDrop, sNever, sAsg, sPar, sAug, sApp, sExt, sSetI, sForI, sWhile, sMid, sTry, sRaise, qVar, qC, qOp, qUn, qB, qAnd, qOr, qNot, qAndV, qOrV, qNotV, qIf, qNil, qCons, qCB, qTup, qLst, qCut, qPart, qNo, qM1, qM0, qCall, qChain, qXf, eQ, eVar, eC, eOp, eUn, eIf, eNil, eCons, eCB, eTup, eLst, eO, eCut, eM1, eM0, ePop, eIxV, eAnd, eOr, eNot, eAndV, eOrV, eNotV, eChain, eCutE, eNo, ePart, oSu, iS, tB', tQ, tYes', oE, oLst, oMove, oIf, oCall, oSt, oComp, iL, iT, iR1, iR2, gN, gT, gsNil, gsCons, cNil, cVal, cRef, free_0, free_succ, ends, outs, nils, resolve, putBack, allRef, refs, wipeE, pIsN, pNotN, pEq, pNe, eqOk_ii, eqOk_ss, eqOk_bb, eqOk_ni, eqOk_in, frS_frz, frS_own, frS_nil, List.replicate, List.getElem?_cons_zero, List.getElem?_cons_succ, List.set_cons_zero, List.set_cons_succ, List.cons_append, List.nil_append, List.length_cons, List.length_nil, List.take_succ_cons, List.take_zero, List.map_cons, List.map_nil, true_and, and_true, D.int.injEq, D.str.injEq, D.lst.injEq, decide_eq_true_eq, ite_true, ite_false, if_true, if_false, reduceIte, Bool.false_eq_true, false_and, and_false, Bool.not_true, Bool.not_false, Option.some.injEq, exists_eq_left', exists_eq_left, exists_and_left, List.nodup_cons, List.nodup_nil, List.not_mem_nil, not_false_eq_true, List.mem_cons, or_false, false_or, forall_eq, forall_eq_or_imp, Slot.own.injEq, Slot.par.injEq, Slot.frz.injEq, reduceCtorEq, exists_eq', exists_eq, exists_false, decide_true, decide_false, or_self, false_implies, implies_true, forall_const, eq_self, rd_lkL1, rd_lkL2, rd_lkL3, rd_lkE1, rd_lkE2, rd_thE1, rd_thE2, rd_lkF1, rd_lkX1, rd_lkX2, rd_lkX3, rd_mvS1, rd_mvS2, rd_mvE1, rd_mvE2, rd_lsO1, rd_lsO2, rd_tpO1, rd_sol1, rd_sol2, rd_sol3, rd_sol4, rd_sol5, rd_sol6, rd_sol7, rd_flat1, rd_flat2, rd_flat3, rd_flat4, rd_flat5, rd_asD1, rd_asD2, rd_asQ1, rd_asQ2, rd_asB, rd_asI, rd_p1, rd_p2, rd_pI0, rd_pI2, rd_pU, rd_pAdd1, rd_pAdd2, rd_pAdd3, rd_pAdd4, rd_pMul1, rd_pMul2, rd_pMul3, rd_pLen1, rd_pLen2, rd_pLen3, rd_pInt1, rd_pAbs, rd_pList1, rd_pList2, rd_pList3, rd_pCut1, rd_pCut2, rd_pCut3, rd_non1, rd_non2, rd_non3, rd_non4, rd_non5, rd_non6, rd_isStr, rd_pIx1, rd_pIx2, rd_pIx3, rd_pJoin1, rd_upS1, rd_upS2, rd_out1, rd_out2, rd_out3, rd_out4, rd_asL1, rd_asL2, rd_putL1, rd_putL2, rd_stA, rd_isi1, rd_isi2, rd_isi3, rd_isi4, rd_isX, rd_draw, rd_take, rd_pLt, rd_pLe, rd_pGt, rd_pGe, rd_pTuple1, rd_pTuple2, rd_pStr1, rd_pStr2, rd_pInt, rd_pIntS, rd_pIntB, rd_pOrd, rd_pMax, rd_pSplit, rd_pPart, rd_stO, rd_pCutS, rd_solB, rd_pIn1, rd_pNotIn1, rd_pIn2, rd_pIn3, rd_pNotIn2, rd_pNotIn3, rd_pBls, rd_pJoin2, rd_at0, rd_at1, rd_at2, rd_at3, rd_atL, rd_ixL, rd_pRepr, rd_pGt2, rd_pLt2]
    refine ⟨by omega, by omega, ?_⟩
    rw [l4]
    refine c_reads.mpr ⟨by rw [SX.S_len]; simp, by rw [S_cps]; simp, fun rs' m' hr' => ?_⟩
    obtain ⟨rfl, rfl⟩ := reads_one hr' (.nil no_nil)
    have oke := ok_reads (n := 0) (Reads.nil no_nil) (by simp)
    simp only [List.map_nil] at oke
    rw [List.map_nil, ← z0]
    simp only [eqOk_ok oke oke, sSeq, sSet, sIf, sRet, sRetN, sNext, sBreak, sCont, sDrop, sNever, sAsg, sPar, sAug, sApp, sExt, sSetI, sForI, sWhile, sMid, sTry, sRaise, qVar, qC, qOp, qUn, qB, qAnd, qOr, qNot, qAndV, qOrV, qNotV, qIf, qNil, qCons, qCB, qTup, qLst, qCut, qPart, qNo, qM1, qM0, qCall, qChain, qXf, eQ, eVar, eC, eOp, eUn, eIf, eNil, eCons, eCB, eTup, eLst, eO, eCut, eM1, eM0, ePop, eIxV, eAnd, eOr, eNot, eAndV, eOrV, eNotV, eChain, eCutE, eNo, ePart, oSu, iS, tB', tQ, tYes', oE, oLst, oMove, oIf, oCall, oSt, oComp, iL, iT, iR1, iR2, gN, gT, gsNil, gsCons, cNil, cVal, cRef, free_0, free_succ, ends, outs, nils, resolve, putBack, allRef, refs, wipeE, pIsN, pNotN, pEq, pNe, eqOk_ii, eqOk_ss, eqOk_bb, eqOk_ni, eqOk_in, frS_frz, frS_own, frS_nil, List.replicate, List.getElem?_cons_zero, List.getElem?_cons_succ, List.set_cons_zero, List.set_cons_succ, List.cons_append, List.nil_append, List.length_cons, List.length_nil, List.take_succ_cons, List.take_zero, List.map_cons, List.map_nil, true_and, and_true, D.int.injEq, D.str.injEq, D.lst.injEq, decide_eq_true_eq, ite_true, ite_false, if_true, if_false, reduceIte, Bool.false_eq_true, false_and, and_false, Bool.not_true, Bool.not_false, Option.some.injEq, exists_eq_left', exists_eq_left, exists_and_left, List.nodup_cons, List.nodup_nil, List.not_mem_nil, not_false_eq_true, List.mem_cons, or_false, false_or, forall_eq, forall_eq_or_imp, Slot.own.injEq, Slot.par.injEq, Slot.frz.injEq, reduceCtorEq, exists_eq', exists_eq, exists_false, decide_true, decide_false, or_self, false_implies, implies_true, forall_const, eq_self, rd_lkL1, rd_lkL2, rd_lkL3, rd_lkE1, rd_lkE2, rd_thE1, rd_thE2, rd_lkF1, rd_lkX1, rd_lkX2, rd_lkX3, rd_mvS1, rd_mvS2, rd_mvE1, rd_mvE2, rd_lsO1, rd_lsO2, rd_tpO1, rd_sol1, rd_sol2, rd_sol3, rd_sol4, rd_sol5, rd_sol6, rd_sol7, rd_flat1, rd_flat2, rd_flat3, rd_flat4, rd_flat5, rd_asD1, rd_asD2, rd_asQ1, rd_asQ2, rd_asB, rd_asI, rd_p1, rd_p2, rd_pI0, rd_pI2, rd_pU, rd_pAdd1, rd_pAdd2, rd_pAdd3, rd_pAdd4, rd_pMul1, rd_pMul2, rd_pMul3, rd_pLen1, rd_pLen2, rd_pLen3, rd_pInt1, rd_pAbs, rd_pList1, rd_pList2, rd_pList3, rd_pCut1, rd_pCut2, rd_pCut3, rd_non1, rd_non2, rd_non3, rd_non4, rd_non5, rd_non6, rd_isStr, rd_pIx1, rd_pIx2, rd_pIx3, rd_pJoin1, rd_upS1, rd_upS2, rd_out1, rd_out2, rd_out3, rd_out4, rd_asL1, rd_asL2, rd_putL1, rd_putL2, rd_stA, rd_isi1, rd_isi2, rd_isi3, rd_isi4, rd_isX, rd_draw, rd_take, rd_pLt, rd_pLe, rd_pGt, rd_pGe, rd_pTuple1, rd_pTuple2, rd_pStr1, rd_pStr2, rd_pInt, rd_pIntS, rd_pIntB, rd_pOrd, rd_pMax, rd_pSplit, rd_pPart, rd_stO, rd_pCutS, rd_solB, rd_pIn1, rd_pNotIn1, rd_pIn2, rd_pIn3, rd_pNotIn2, rd_pNotIn3, rd_pBls, rd_pJoin2, rd_at0, rd_at1, rd_at2, rd_at3, rd_atL, rd_ixL, rd_pRepr, rd_pGt2, rd_pLt2]
    refine ⟨by omega, by omega, rfl, by omega, I2 ns (dataL rs), ⟨_, _, _, _, _, _, _, _, rfl, h4, h7, rfl, rfl, rfl⟩, ?_⟩
    generalize dataL rs = data at *
    rintro i env ⟨x3, x4, x5, x6, x7, x8, x9, x10, rfl, h4, h7, h8, h9, h10⟩
    refine ⟨fun d hd => ?_, fun hi => ?_⟩
    · obtain ⟨hi, rfl⟩ := rng_get hd
      simp only [h4, h7, h8, h9, h10, SX.S_len, c_pick, sSeq, sSet, sIf, sRet, sRetN, sNext, sBreak, sCont, sDrop, sNever, sAsg, sPar, sAug, sApp, sExt, sSetI, sForI, sWhile, sMid, sTry, sRaise, qVar, qC, qOp, qUn, qB, qAnd, qOr, qNot, qAndV, qOrV, qNotV, qIf, qNil, qCons, qCB, qTup, qLst, qCut, qPart, qNo, qM1, qM0, qCall, qChain, qXf, eQ, eVar, eC, eOp, eUn, eIf, eNil, eCons, eCB, eTup, eLst, eO, eCut, eM1, eM0, ePop, eIxV, eAnd, eOr, eNot, eAndV, eOrV, eNotV, eChain, eCutE, eNo, ePart, oSu, iS, tB', tQ, tYes', oE, oLst, oMove, oIf, oCall, oSt, oComp, iL, iT, iR1, iR2, gN, gT, gsNil, gsCons, cNil, cVal, cRef, free_0, free_succ, ends, outs, nils, resolve, putBack, allRef, refs, wipeE, pIsN, pNotN, pEq, pNe, eqOk_ii, eqOk_ss, eqOk_bb, eqOk_ni, eqOk_in, frS_frz, frS_own, frS_nil, List.replicate, List.getElem?_cons_zero, List.getElem?_cons_succ, List.set_cons_zero, List.set_cons_succ, List.cons_append, List.nil_append, List.length_cons, List.length_nil, List.take_succ_cons, List.take_zero, List.map_cons, List.map_nil, true_and, and_true, D.int.injEq, D.str.injEq, D.lst.injEq, decide_eq_true_eq, ite_true, ite_false, if_true, if_false, reduceIte, Bool.false_eq_true, false_and, and_false, Bool.not_true, Bool.not_false, Option.some.injEq, exists_eq_left', exists_eq_left, exists_and_left, List.nodup_cons, List.nodup_nil, List.not_mem_nil, not_false_eq_true, List.mem_cons, or_false, false_or, forall_eq, forall_eq_or_imp, Slot.own.injEq, Slot.par.injEq, Slot.frz.injEq, reduceCtorEq, exists_eq', exists_eq, exists_false, decide_true, decide_false, or_self, false_implies, implies_true, forall_const, eq_self, rd_lkL1, rd_lkL2, rd_lkL3, rd_lkE1, rd_lkE2, rd_thE1, rd_thE2, rd_lkF1, rd_lkX1, rd_lkX2, rd_lkX3, rd_mvS1, rd_mvS2, rd_mvE1, rd_mvE2, rd_lsO1, rd_lsO2, rd_tpO1, rd_sol1, rd_sol2, rd_sol3, rd_sol4, rd_sol5, rd_sol6, rd_sol7, rd_flat1, rd_flat2, rd_flat3, rd_flat4, rd_flat5, rd_asD1, rd_asD2, rd_asQ1, rd_asQ2, rd_asB, rd_asI, rd_p1, rd_p2, rd_pI0, rd_pI2, rd_pU, rd_pAdd1, rd_pAdd2, rd_pAdd3, rd_pAdd4, rd_pMul1, rd_pMul2, rd_pMul3, rd_pLen1, rd_pLen2, rd_pLen3, rd_pInt1, rd_pAbs, rd_pList1, rd_pList2, rd_pList3, rd_pCut1, rd_pCut2, rd_pCut3, rd_non1, rd_non2, rd_non3, rd_non4, rd_non5, rd_non6, rd_isStr, rd_pIx1, rd_pIx2, rd_pIx3, rd_pJoin1, rd_upS1, rd_upS2, rd_out1, rd_out2, rd_out3, rd_out4, rd_asL1, rd_asL2, rd_putL1, rd_putL2, rd_stA, rd_isi1, rd_isi2, rd_isi3, rd_isi4, rd_isX, rd_draw, rd_take, rd_pLt, rd_pLe, rd_pGt, rd_pGe, rd_pTuple1, rd_pTuple2, rd_pStr1, rd_pStr2, rd_pInt, rd_pIntS, rd_pIntB, rd_pOrd, rd_pMax, rd_pSplit, rd_pPart, rd_stO, rd_pCutS, rd_solB, rd_pIn1, rd_pNotIn1, rd_pIn2, rd_pIn3, rd_pNotIn2, rd_pNotIn3, rd_pBls, rd_pJoin2, rd_at0, rd_at1, rd_at2, rd_at3, rd_atL, rd_ixL, rd_pRepr, rd_pGt2, rd_pLt2]
      refine ⟨by omega, by omega, fun v v0 v1 => ⟨by omega, by simp, by omega, fun d hd => ?_⟩⟩
      obtain ⟨c, hc, rfl⟩ : ∃ c : List Nat, (c.length = 1 ∧ ∀ x ∈ c, x < 128) ∧ d = .str (SX.S c) := by
        simp only [List.mem_cons, List.not_mem_nil, or_false] at hd
        rcases hd with rfl | rfl | rfl | rfl | rfl | rfl | rfl
        all_goals exact ⟨_, by decide +kernel, congrArg D.str (S_of _)⟩
      obtain ⟨p, rfl⟩ : ∃ p : Nat, v = p := ⟨v.toNat, by omega⟩
      have ep : (p : Int) + 1 = ((p + 1 : Nat) : Int) := by omega
      have l30 : Str.ofString "3 0:" = SX.S [51, 32, 48, 58] := by decide +kernel
      have lt := List.length_take (i := p) (l := data)
      have ld := List.length_drop (i := p) (l := data)
      have ld1 := List.length_drop (i := p + 1) (l := data)
      simp only [ep, cutS_to, cutS_from, S_cps, S_app, SX.S_len, l30, List.length_append, List.length_cons, List.length_nil, sSeq, sSet, sIf, sRet, sRetN, sNext, sBreak, sCont, sDrop, sNever, sAsg, sPar, sAug, sApp, sExt, sSetI, sForI, sWhile, sMid, sTry, sRaise, qVar, qC, qOp, qUn, qB, qAnd, qOr, qNot, qAndV, qOrV, qNotV, qIf, qNil, qCons, qCB, qTup, qLst, qCut, qPart, qNo, qM1, qM0, qCall, qChain, qXf, eQ, eVar, eC, eOp, eUn, eIf, eNil, eCons, eCB, eTup, eLst, eO, eCut, eM1, eM0, ePop, eIxV, eAnd, eOr, eNot, eAndV, eOrV, eNotV, eChain, eCutE, eNo, ePart, oSu, iS, tB', tQ, tYes', oE, oLst, oMove, oIf, oCall, oSt, oComp, iL, iT, iR1, iR2, gN, gT, gsNil, gsCons, cNil, cVal, cRef, free_0, free_succ, ends, outs, nils, resolve, putBack, allRef, refs, wipeE, pIsN, pNotN, pEq, pNe, eqOk_ii, eqOk_ss, eqOk_bb, eqOk_ni, eqOk_in, frS_frz, frS_own, frS_nil, List.replicate, List.getElem?_cons_zero, List.getElem?_cons_succ, List.set_cons_zero, List.set_cons_succ, List.cons_append, List.nil_append, List.length_cons, List.length_nil, List.take_succ_cons, List.take_zero, List.map_cons, List.map_nil, true_and, and_true, D.int.injEq, D.str.injEq, D.lst.injEq, decide_eq_true_eq, ite_true, ite_false, if_true, if_false, reduceIte, Bool.false_eq_true, false_and, and_false, Bool.not_true, Bool.not_false, Option.some.injEq, exists_eq_left', exists_eq_left, exists_and_left, List.nodup_cons, List.nodup_nil, List.not_mem_nil, not_false_eq_true, List.mem_cons, or_false, false_or, forall_eq, forall_eq_or_imp, Slot.own.injEq, Slot.par.injEq, Slot.frz.injEq, reduceCtorEq, exists_eq', exists_eq, exists_false, decide_true, decide_false, or_self, false_implies, implies_true, forall_const, eq_self, rd_lkL1, rd_lkL2, rd_lkL3, rd_lkE1, rd_lkE2, rd_thE1, rd_thE2, rd_lkF1, rd_lkX1, rd_lkX2, rd_lkX3, rd_mvS1, rd_mvS2, rd_mvE1, rd_mvE2, rd_lsO1, rd_lsO2, rd_tpO1, rd_sol1, rd_sol2, rd_sol3, rd_sol4, rd_sol5, rd_sol6, rd_sol7, rd_flat1, rd_flat2, rd_flat3, rd_flat4, rd_flat5, rd_asD1, rd_asD2, rd_asQ1, rd_asQ2, rd_asB, rd_asI, rd_p1, rd_p2, rd_pI0, rd_pI2, rd_pU, rd_pAdd1, rd_pAdd2, rd_pAdd3, rd_pAdd4, rd_pMul1, rd_pMul2, rd_pMul3, rd_pLen1, rd_pLen2, rd_pLen3, rd_pInt1, rd_pAbs, rd_pList1, rd_pList2, rd_pList3, rd_pCut1, rd_pCut2, rd_pCut3, rd_non1, rd_non2, rd_non3, rd_non4, rd_non5, rd_non6, rd_isStr, rd_pIx1, rd_pIx2, rd_pIx3, rd_pJoin1, rd_upS1, rd_upS2, rd_out1, rd_out2, rd_out3, rd_out4, rd_asL1, rd_asL2, rd_putL1, rd_putL2, rd_stA, rd_isi1, rd_isi2, rd_isi3, rd_isi4, rd_isX, rd_draw, rd_take, rd_pLt, rd_pLe, rd_pGt, rd_pGe, rd_pTuple1, rd_pTuple2, rd_pStr1, rd_pStr2, rd_pInt, rd_pIntS, rd_pIntB, rd_pOrd, rd_pMax, rd_pSplit, rd_pPart, rd_stO, rd_pCutS, rd_solB, rd_pIn1, rd_pNotIn1, rd_pIn2, rd_pIn3, rd_pNotIn2, rd_pNotIn3, rd_pBls, rd_pJoin2, rd_at0, rd_at1, rd_at2, rd_at3, rd_atL, rd_ixL, rd_pRepr, rd_pGt2, rd_pLt2]
      refine ⟨by omega, by omega, by omega, by omega, by omega, by omega, by omega, by omega, by omega, by omega, by omega, by omega, by omega, by omega, by simp, by omega, fun d hd => ?_⟩
      obtain ⟨o, ho1, ho2, rfl⟩ : ∃ o : List Nat, o.length ≤ 2000 ∧ (∀ x ∈ o, x < 128) ∧ d = .str (SX.S o) := by
        have mt : ∀ x ∈ data.take p, x < 128 := fun x hx => hdl.2 x (List.mem_of_mem_take hx)
        have md : ∀ x ∈ data.drop p, x < 128 := fun x hx => hdl.2 x (List.mem_of_mem_drop hx)
        have md1 : ∀ x ∈ data.drop (p + 1), x < 128 := fun x hx => hdl.2 x (List.mem_of_mem_drop hx)
        simp only [List.mem_cons, List.not_mem_nil, or_false] at hd
        rcases hd with rfl | rfl | rfl | rfl | rfl
        · exact ⟨_, by omega, mt, rfl⟩
        · refine ⟨_, by simp only [List.length_append]; omega, fun x hx => ?_, rfl⟩
          simp only [List.mem_append] at hx
          rcases hx with (h | h) | h
          · exact mt x h
          · exact hc.2 x h
          · exact md1 x h
        · refine ⟨_, by simp only [List.length_append]; omega, fun x hx => ?_, rfl⟩
          simp only [List.mem_append] at hx
          rcases hx with h | h
          · exact mt x h
          · exact md1 x h
        · refine ⟨_, by simp only [List.length_append]; omega, fun x hx => ?_, rfl⟩
          simp only [List.mem_append] at hx
          rcases hx with (h | h) | h
          · exact mt x h
          · exact hc.2 x h
          · exact md x h
        · refine ⟨_, by simp only [List.length_append, List.length_cons, List.length_nil]; omega, fun x hx => ?_, rfl⟩
          simp only [List.mem_append, List.mem_cons, List.not_mem_nil, or_false] at hx
          rcases hx with h | h
          · exact hdl.2 x h
          · omega
      refine c_reads.mpr ⟨by rw [SX.S_len]; omega, by rw [S_cps]; exact ho2, fun rs' m' hr' => ?_⟩
      rw [S_cps] at hr'
      have oke := ok_reads (n := m') hr' ho2
      have c_lr : ∀ {Q : Pu.Slot → Pu.Env → Prop} {X : XP}, ps_law_read [.frz (.str (SX.S o))] Q X ↔ _ := c_reads (x := SX.S o)
      simp only [h7, SX.S_len, c_lr, S_cps, sSeq, sSet, sIf, sRet, sRetN, sNext, sBreak, sCont, sDrop, sNever, sAsg, sPar, sAug, sApp, sExt, sSetI, sForI, sWhile, sMid, sTry, sRaise, qVar, qC, qOp, qUn, qB, qAnd, qOr, qNot, qAndV, qOrV, qNotV, qIf, qNil, qCons, qCB, qTup, qLst, qCut, qPart, qNo, qM1, qM0, qCall, qChain, qXf, eQ, eVar, eC, eOp, eUn, eIf, eNil, eCons, eCB, eTup, eLst, eO, eCut, eM1, eM0, ePop, eIxV, eAnd, eOr, eNot, eAndV, eOrV, eNotV, eChain, eCutE, eNo, ePart, oSu, iS, tB', tQ, tYes', oE, oLst, oMove, oIf, oCall, oSt, oComp, iL, iT, iR1, iR2, gN, gT, gsNil, gsCons, cNil, cVal, cRef, free_0, free_succ, ends, outs, nils, resolve, putBack, allRef, refs, wipeE, pIsN, pNotN, pEq, pNe, eqOk_ii, eqOk_ss, eqOk_bb, eqOk_ni, eqOk_in, frS_frz, frS_own, frS_nil, List.replicate, List.getElem?_cons_zero, List.getElem?_cons_succ, List.set_cons_zero, List.set_cons_succ, List.cons_append, List.nil_append, List.length_cons, List.length_nil, List.take_succ_cons, List.take_zero, List.map_cons, List.map_nil, true_and, and_true, D.int.injEq, D.str.injEq, D.lst.injEq, decide_eq_true_eq, ite_true, ite_false, if_true, if_false, reduceIte, Bool.false_eq_true, false_and, and_false, Bool.not_true, Bool.not_false, Option.some.injEq, exists_eq_left', exists_eq_left, exists_and_left, List.nodup_cons, List.nodup_nil, List.not_mem_nil, not_false_eq_true, List.mem_cons, or_false, false_or, forall_eq, forall_eq_or_imp, Slot.own.injEq, Slot.par.injEq, Slot.frz.injEq, reduceCtorEq, exists_eq', exists_eq, exists_false, decide_true, decide_false, or_self, false_implies, implies_true, forall_const, eq_self, rd_lkL1, rd_lkL2, rd_lkL3, rd_lkE1, rd_lkE2, rd_thE1, rd_thE2, rd_lkF1, rd_lkX1, rd_lkX2, rd_lkX3, rd_mvS1, rd_mvS2, rd_mvE1, rd_mvE2, rd_lsO1, rd_lsO2, rd_tpO1, rd_sol1, rd_sol2, rd_sol3, rd_sol4, rd_sol5, rd_sol6, rd_sol7, rd_flat1, rd_flat2, rd_flat3, rd_flat4, rd_flat5, rd_asD1, rd_asD2, rd_asQ1, rd_asQ2, rd_asB, rd_asI, rd_p1, rd_p2, rd_pI0, rd_pI2, rd_pU, rd_pAdd1, rd_pAdd2, rd_pAdd3, rd_pAdd4, rd_pMul1, rd_pMul2, rd_pMul3, rd_pLen1, rd_pLen2, rd_pLen3, rd_pInt1, rd_pAbs, rd_pList1, rd_pList2, rd_pList3, rd_pCut1, rd_pCut2, rd_pCut3, rd_non1, rd_non2, rd_non3, rd_non4, rd_non5, rd_non6, rd_isStr, rd_pIx1, rd_pIx2, rd_pIx3, rd_pJoin1, rd_upS1, rd_upS2, rd_out1, rd_out2, rd_out3, rd_out4, rd_asL1, rd_asL2, rd_putL1, rd_putL2, rd_stA, rd_isi1, rd_isi2, rd_isi3, rd_isi4, rd_isX, rd_draw, rd_take, rd_pLt, rd_pLe, rd_pGt, rd_pGe, rd_pTuple1, rd_pTuple2, rd_pStr1, rd_pStr2, rd_pInt, rd_pIntS, rd_pIntB, rd_pOrd, rd_pMax, rd_pSplit, rd_pPart, rd_stO, rd_pCutS, rd_solB, rd_pIn1, rd_pNotIn1, rd_pIn2, rd_pIn3, rd_pNotIn2, rd_pNotIn3, rd_pBls, rd_pJoin2, rd_at0, rd_at1, rd_at2, rd_at3, rd_atL, rd_ixL, rd_pRepr, rd_pGt2, rd_pLt2]
      refine ⟨by omega, ?_⟩
      by_cases h300 : (o.length : Int) ≤ 300
      · rw [if_pos h300]
        refine ⟨by omega, ho2, fun rs2 m2 hr2 => ?_⟩
        obtain ⟨rfl, rfl⟩ := reads_one hr' hr2
        rw [decide_eq_true rfl]
        exact ⟨eqOk_ok oke oke, _, _, _, _, _, _, _, _, rfl, rfl, rfl, rfl, rfl, rfl⟩
      · rw [if_neg h300]
        exact ⟨_, _, _, _, _, _, _, _, rfl, rfl, rfl, rfl, rfl, rfl⟩
    · simp only [c_chk, sSeq, sSet, sIf, sRet, sRetN, sNext, sBreak, sCont, sDrop, sNever, sAsg, sPar, sAug, sApp, sExt, sSetI, sForI, sWhile, sMid, sTry, sRaise, qVar, qC, qOp, qUn, qB, qAnd, qOr, qNot, qAndV, qOrV, qNotV, qIf, qNil, qCons, qCB, qTup, qLst, qCut, qPart, qNo, qM1, qM0, qCall, qChain, qXf, eQ, eVar, eC, eOp, eUn, eIf, eNil, eCons, eCB, eTup, eLst, eO, eCut, eM1, eM0, ePop, eIxV, eAnd, eOr, eNot, eAndV, eOrV, eNotV, eChain, eCutE, eNo, ePart, oSu, iS, tB', tQ, tYes', oE, oLst, oMove, oIf, oCall, oSt, oComp, iL, iT, iR1, iR2, gN, gT, gsNil, gsCons, cNil, cVal, cRef, free_0, free_succ, ends, outs, nils, resolve, putBack, allRef, refs, wipeE, pIsN, pNotN, pEq, pNe, eqOk_ii, eqOk_ss, eqOk_bb, eqOk_ni, eqOk_in, frS_frz, frS_own, frS_nil, List.replicate, List.getElem?_cons_zero, List.getElem?_cons_succ, List.set_cons_zero, List.set_cons_succ, List.cons_append, List.nil_append, List.length_cons, List.length_nil, List.take_succ_cons, List.take_zero, List.map_cons, List.map_nil, true_and, and_true, D.int.injEq, D.str.injEq, D.lst.injEq, decide_eq_true_eq, ite_true, ite_false, if_true, if_false, reduceIte, Bool.false_eq_true, false_and, and_false, Bool.not_true, Bool.not_false, Option.some.injEq, exists_eq_left', exists_eq_left, exists_and_left, List.nodup_cons, List.nodup_nil, List.not_mem_nil, not_false_eq_true, List.mem_cons, or_false, false_or, forall_eq, forall_eq_or_imp, Slot.own.injEq, Slot.par.injEq, Slot.frz.injEq, reduceCtorEq, exists_eq', exists_eq, exists_false, decide_true, decide_false, or_self, false_implies, implies_true, forall_const, eq_self, rd_lkL1, rd_lkL2, rd_lkL3, rd_lkE1, rd_lkE2, rd_thE1, rd_thE2, rd_lkF1, rd_lkX1, rd_lkX2, rd_lkX3, rd_mvS1, rd_mvS2, rd_mvE1, rd_mvE2, rd_lsO1, rd_lsO2, rd_tpO1, rd_sol1, rd_sol2, rd_sol3, rd_sol4, rd_sol5, rd_sol6, rd_sol7, rd_flat1, rd_flat2, rd_flat3, rd_flat4, rd_flat5, rd_asD1, rd_asD2, rd_asQ1, rd_asQ2, rd_asB, rd_asI, rd_p1, rd_p2, rd_pI0, rd_pI2, rd_pU, rd_pAdd1, rd_pAdd2, rd_pAdd3, rd_pAdd4, rd_pMul1, rd_pMul2, rd_pMul3, rd_pLen1, rd_pLen2, rd_pLen3, rd_pInt1, rd_pAbs, rd_pList1, rd_pList2, rd_pList3, rd_pCut1, rd_pCut2, rd_pCut3, rd_non1, rd_non2, rd_non3, rd_non4, rd_non5, rd_non6, rd_isStr, rd_pIx1, rd_pIx2, rd_pIx3, rd_pJoin1, rd_upS1, rd_upS2, rd_out1, rd_out2, rd_out3, rd_out4, rd_asL1, rd_asL2, rd_putL1, rd_putL2, rd_stA, rd_isi1, rd_isi2, rd_isi3, rd_isi4, rd_isX, rd_draw, rd_take, rd_pLt, rd_pLe, rd_pGt, rd_pGe, rd_pTuple1, rd_pTuple2, rd_pStr1, rd_pStr2, rd_pInt, rd_pIntS, rd_pIntB, rd_pOrd, rd_pMax, rd_pSplit, rd_pPart, rd_stO, rd_pCutS, rd_solB, rd_pIn1, rd_pNotIn1, rd_pIn2, rd_pIn3, rd_pNotIn2, rd_pNotIn3, rd_pBls, rd_pJoin2, rd_at0, rd_at1, rd_at2, rd_at3, rd_atL, rd_ixL, rd_pRepr, rd_pGt2, rd_pLt2]
      exact ⟨by rw [SX.S_len]; simp, h⟩

end Lk70

set_option Elab.async false
set_option linter.all false
set_option maxRecDepth 100000
namespace Lk70
open PySem PySem.Spec L2 Pu
structure Bl (mg : Str → Option Value) : Prop where
  abs : mg "abs" = none
  any : mg "any" = none
  int : mg "int" = none
  isinstance : mg "isinstance" = none
  len : mg "len" = none
  ord : mg "ord" = none
  range : mg "range" = none
  str : mg "str" = none
  tuple : mg "tuple" = none
section
variable {P : Program} {w : World} {K : PySem.W.Frag} {mg : Str → Option Value} {base : Heap}
theorem ok_law_state {f : Addr} {fd : FuncData} (F : FnP K "_law_state" "_law_state" s_law_state f fd) (B : Bl mg) :
    FnOk P w K mg base CX0 1 f fd ["_law_script"] (spOf (wd P w K) ps_law_state) := by
  exact F.pure0 sc_law_state (by decide) (psOf_len fun _ => rfl) (fun cdv A outer s H E hr => ⟨_, p_law_state , (pss_cons (ps_set (i := 1) sc_law_state.nd rfl (Or.inl rfl) pe_int)
    (pss_cons (ps_for PassesOwn.never rfl (pi_list (pv 0)) (pg_name (i := 2) sc_law_state.nd rfl (Or.inl rfl)) (pss_one (ps_set (i := 1) sc_law_state.nd rfl (Or.inl rfl) (pe_op op_mod (pe_callTy (Pu.CallR.or call_int1 call_int_str) (by rfl) (B.int) (by decide +kernel) (pa_cons (pe_op op_plus (pe_op op_times (pv 1) pe_int) (pv 2)) pa_nil)) pe_int))))
    (pss_one (ps_ret (pe_lst (pa_cons (pe_lc (own := [("_law_cell", 2)]) rfl sc_law_state.nd (pi_list (pv 0)) (blkOk_by (own := [("_law_cell", 2)]) (N := n_law_state) (sc := defScope s_law_state) (by decide +kernel)) (fun _ _ _ _ _ => (pg_name (i := 2) sc_law_state.nd rfl (Or.inl rfl))) (fun _ _ _ _ _ => pts_nil) (fun _ _ _ _ _ => (pe_callB call_abs (by rfl) (B.abs) (by decide +kernel) (pa_cons (pv 2) pa_nil)))) (pa_cons (pe_op op_plus (pv 1) pe_int) pa_nil))))))), (purs_seq (purs_set (puro_e pure_int))
    (purs_seq (purs_for (puri_list pure_var) purg_name (purs_set (puro_e (pure_op pr_I (pure_CB pc_int (pura_cons (pure_op pr_plus (pure_op pr_times pure_var pure_int) pure_var) pura_nil)) pure_int))))
    (purs_ret (puro_st (puro_lc (puri_list pure_var) purg_name (tgin_name (by decide)) purt_yes (pure_CB pc_abs (pura_cons pure_var pura_nil))) (purq_op pr_plus purq_var purq_int))))), fun as Q X' h => pp_law_state  as Q _ h⟩)
theorem ok_law_draw {f : Addr} {fd : FuncData} (F : FnP K "_law_draw" "_law_draw" s_law_draw f fd) (B : Bl mg) :
    FnOk P w K mg base CX0 1 f fd ["_law_state_here", "_law_many"] (spOf (wd P w K) psDraw) := by
  refine F.ok sc_law_draw (sp_len (by rintro as Q Xc ⟨_, rfl, _⟩; rfl)) (fun cdv A outer s H vs Q E hr h => ⟨t_draw K, PSs.nox ?_, draw_read rfl vs H Q E h⟩)
  exact (pss_cons (ps_if (pt_cmpR op_lt (pv 1) pe_int (nomark _)) (pss_one (ps_ret pe_int)) pss_nil)
    (pss_cons (ps_set (i := 2) sc_law_draw.nd rfl (Or.inl rfl) (pe_ix ix_seq (pv 0) pe_int (fun _ _ => rfl)))
    (pss_cons (ps_while PassesOwn.never (PW.pt (pw_and (pt_cmpR op_gt (pe_callB call_len (by rfl) B.len PySem.boot_len (pa_cons (pv 2) pa_nil)) pe_int (nomark _)) (pw_and1 (pt_cmpR (op_eqA hr.units) (pe_ix ix_seq (pv 2) pe_int (fun _ _ => rfl)) pe_int (nomark _))))) (pss_one (ps_expr (pe_bm PySem.F.plainAttrs_list PySem.F.slot_list_pop PySem.F.type_list_pop mt_popAt (pv 2) (pa_cons pe_int pa_nil)))))
    (pss_cons (ps_if (pt_cmpR op_gt (pe_callB call_len (by rfl) B.len PySem.boot_len (pa_cons (pv 2) pa_nil)) pe_int (nomark _)) (pss_cons (ps_set (i := 3) sc_law_draw.nd rfl (Or.inl rfl) (pe_ix ix_seq (pv 2) pe_int (fun _ _ => rfl))) (pss_cons (ps_asg (pe_op op_fdiv (pv 3) (pv 1)) (pg_sub (pv 2) pe_int set_list)) (pss_one (ps_ret (pe_op op_mod (pe_callTy call_int1 (by rfl) B.int (by decide +kernel) (pa_cons (pv 3) pa_nil)) (pv 1)))))) pss_nil)
    (pss_cons (ps_set (i := 4) sc_law_draw.nd rfl (Or.inl rfl) (pe_op op_mod (pe_callTy call_int1 (by rfl) B.int (by decide +kernel) (pa_cons (pe_op op_plus (pe_op op_times (pe_ix ix_seq (pv 0) pe_int (fun _ _ => rfl)) pe_int) pe_int) pa_nil)) pe_int))
    (pss_cons (ps_asg (pv 4) (pg_sub (pv 0) pe_int set_list))
    (pss_one (ps_ret (pe_op op_mod (pe_callTy call_int1 (by rfl) B.int (by decide +kernel) (pa_cons (pe_op op_fdiv (pv 4) pe_int) pa_nil)) (pv 1))))))))))
theorem ok_law_pick {f : Addr} {fd : FuncData} (F : FnP K "_law_pick" "_law_pick" s_law_pick f fd) (B : Bl mg)
    {f_law_draw : Addr} {fd_law_draw : FuncData} (c_law_draw : Cal P w K mg base CX0 1 "_law_draw" ["_law_state_here", "_law_many"] (spOf (wd P w K) ps_law_draw) f_law_draw fd_law_draw) :
    FnOk P w K mg base CX0 2 f fd ["_law_state_here", "_law_row"] (spOf (wd P w K) ps_law_pick) := by
  exact F.pure0 sc_law_pick (by decide) (psOf_len fun _ => rfl) (fun cdv A outer s H E hr => ⟨_, p_law_pick , (pss_one (ps_ret (pe_ix ix_seq (pv 1) (pe_call c_law_draw.ok (hr.mono (by decide)) (by rfl) c_law_draw.g c_law_draw.k c_law_draw.b .nil pass0 (pa_cons (pv 0) (pa_cons (pe_callB call_len (by rfl) (B.len) PySem.boot_len (pa_cons (pv 1) pa_nil)) pa_nil))) (fun _ _ => rfl)))), (purs_ret (puro_e (pure_op pr_ix pure_var (pure_o (puro_call0 (purca_ref (purca_val (pure_q (purq_CB pc_len (purqa_cons purq_var purqa_nil))) purca_nil))))))), fun as Q X' h => pp_law_pick  as Q _ h⟩)
theorem ok_law_record {f : Addr} {fd : FuncData} (F : FnP K "_law_record" "_law_record" s_law_record f fd) (B : Bl mg) :
    FnOk P w K mg base CX0 1 f fd ["_law_kind", "_law_text"] (spOf (wd P w K) ps_law_record) := by
  exact F.pure0 sc_law_record (by decide) (psOf_len fun _ => rfl) (fun cdv A outer s H E hr => ⟨_, p_law_record , (pss_cons (ps_set (i := 2) sc_law_record.nd rfl (Or.inl rfl) (pe_op op_plus (pe_op op_plus (pe_op op_plus (pe_op op_plus (pe_callTy (Pu.CallR.or call_str_int SkE.call_str_str) (by rfl) (B.str) (by decide +kernel) (pa_cons (pv 0) pa_nil)) pe_str) (pe_callTy (Pu.CallR.or call_str_int SkE.call_str_str) (by rfl) (B.str) (by decide +kernel) (pa_cons (pe_callB call_len (by rfl) (B.len) PySem.boot_len (pa_cons (pv 1) pa_nil)) pa_nil))) pe_str) (pv 1)))
    (pss_cons (ps_set (i := 3) sc_law_record.nd rfl (Or.inl rfl) pe_int)
    (pss_cons (ps_for PassesOwn.never rfl (pi_str (pv 2)) (pg_name (i := 4) sc_law_record.nd rfl (Or.inl rfl)) (pss_one (ps_set (i := 3) sc_law_record.nd rfl (Or.inl rfl) (pe_op op_mod (pe_callTy (Pu.CallR.or call_int1 call_int_str) (by rfl) (B.int) (by decide +kernel) (pa_cons (pe_op op_plus (pe_op op_plus (pe_op op_times (pv 3) pe_int) (pe_callB call_ord (by rfl) (B.ord) (by decide +kernel) (pa_cons (pv 4) pa_nil))) pe_int) pa_nil)) pe_int))))
    (pss_one (ps_ret (pe_op op_plus (pe_op op_plus (pe_op op_plus (pv 2) pe_str) (pe_callTy (Pu.CallR.or call_str_int SkE.call_str_str) (by rfl) (B.str) (by decide +kernel) (pa_cons (pv 3) pa_nil))) pe_str)))))), (purs_seq (purs_set (puro_e (pure_op pr_plus (pure_op pr_plus (pure_op pr_plus (pure_op pr_plus (pure_CB pc_str (pura_cons pure_var pura_nil)) pure_str) (pure_CB pc_str (pura_cons (pure_q (purq_CB pc_len (purqa_cons purq_var purqa_nil))) pura_nil))) pure_str) pure_var)))
    (purs_seq (purs_set (puro_e pure_int))
    (purs_seq (purs_for (puri_str pure_var) purg_name (purs_set (puro_e (pure_op pr_I (pure_CB pc_int (pura_cons (pure_op pr_plus (pure_op pr_plus (pure_op pr_times pure_var pure_int) (pure_q (purq_CB pc_ord (purqa_cons purq_var purqa_nil)))) pure_int) pura_nil)) pure_int))))
    (purs_ret (puro_e (pure_op pr_plus (pure_op pr_plus (pure_op pr_plus pure_var pure_str) (pure_CB pc_str (pura_cons pure_var pura_nil))) pure_str)))))), fun as Q X' h => pp_law_record  as Q _ h⟩)
theorem ok_check_number {f : Addr} {fd : FuncData} (F : FnP K "check_number" "check_number" s_check_number f fd) (B : Bl mg)
    {t_MODULUS : Tok} (c_MODULUS : mg "MODULUS" = some (.int 4294967291 t_MODULUS)) :
    FnOk P w K mg base CX0 1 f fd ["text"] (spOf (wd P w K) ps_check_number) := by
  exact F.pure0 sc_check_number (by decide) (psOf_len fun _ => rfl) (fun cdv A outer s H E hr => ⟨_, p_check_number , (pss_cons (ps_set (i := 1) sc_check_number.nd rfl (Or.inl rfl) pe_int)
    (pss_cons (ps_for PassesOwn.never rfl (pi_str (pv 0)) (pg_name (i := 2) sc_check_number.nd rfl (Or.inl rfl)) (pss_one (ps_set (i := 1) sc_check_number.nd rfl (Or.inl rfl) (pe_op op_mod (pe_callTy (Pu.CallR.or call_int1 call_int_str) (by rfl) (B.int) (by decide +kernel) (pa_cons (pe_op op_plus (pe_op op_plus (pe_op op_times (pv 1) pe_int) (pe_callB call_ord (by rfl) (B.ord) (by decide +kernel) (pa_cons (pv 2) pa_nil))) pe_int) pa_nil)) (pe_glob rfl c_MODULUS rv_int)))))
    (pss_one (ps_ret (pv 1))))), (purs_seq (purs_set (puro_e pure_int))
    (purs_seq (purs_for (puri_str pure_var) purg_name (purs_set (puro_e (pure_op pr_I (pure_CB pc_int (pura_cons (pure_op pr_plus (pure_op pr_plus (pure_op pr_times pure_var pure_int) (pure_q (purq_CB pc_ord (purqa_cons purq_var purqa_nil)))) pure_int) pura_nil)) pure_int))))
    (purs_ret puro_move))), fun as Q X' h => pp_check_number  as Q _ h⟩)
theorem ok_record_text {f : Addr} {fd : FuncData} (F : FnP K "record_text" "record_text" s_record_text f fd) (B : Bl mg)
    {f_check_number : Addr} {fd_check_number : FuncData} (c_check_number : Cal P w K mg base CX0 1 "check_number" ["text"] (spOf (wd P w K) ps_check_number) f_check_number fd_check_number) :
    FnOk P w K mg base CX0 2 f fd ["kind", "text"] (spOf (wd P w K) ps_record_text) := by
  exact F.pure0 sc_record_text (by decide) (psOf_len fun _ => rfl) (fun cdv A outer s H E hr => ⟨_, p_record_text , (pss_cons (ps_set (i := 2) sc_record_text.nd rfl (Or.inl rfl) (pe_op op_plus (pe_op op_plus (pe_op op_plus (pe_op op_plus (pe_callTy (Pu.CallR.or call_str_int SkE.call_str_str) (by rfl) (B.str) (by decide +kernel) (pa_cons (pv 0) pa_nil)) pe_str) (pe_callTy (Pu.CallR.or call_str_int SkE.call_str_str) (by rfl) (B.str) (by decide +kernel) (pa_cons (pe_callB call_len (by rfl) (B.len) PySem.boot_len (pa_cons (pv 1) pa_nil)) pa_nil))) pe_str) (pv 1)))
    (pss_one (ps_ret (pe_op op_plus (pe_op op_plus (pe_op op_plus (pv 2) pe_str) (pe_callTy (Pu.CallR.or call_str_int SkE.call_str_str) (by rfl) (B.str) (by decide +kernel) (pa_cons (pe_call c_check_number.ok (hr.mono (by decide)) (by rfl) c_check_number.g c_check_number.k c_check_number.b .nil pass0 (pa_cons (pv 2) pa_nil)) pa_nil))) pe_str)))), (purs_seq (purs_set (puro_e (pure_op pr_plus (pure_op pr_plus (pure_op pr_plus (pure_op pr_plus (pure_CB pc_str (pura_cons pure_var pura_nil)) pure_str) (pure_CB pc_str (pura_cons (pure_q (purq_CB pc_len (purqa_cons purq_var purqa_nil))) pura_nil))) pure_str) pure_var)))
    (purs_ret (puro_e (pure_op pr_plus (pure_op pr_plus (pure_op pr_plus pure_var pure_str) (pure_CB pc_str (pura_cons (pure_o (puro_call0 (purca_val pure_var purca_nil))) pura_nil))) pure_str)))), fun as Q X' h => pp_record_text  as Q _ h⟩)
theorem ok_is_number {f : Addr} {fd : FuncData} (F : FnP K "is_number" "is_number" s_is_number f fd) (B : Bl mg)
    {t_DIGITS : Tok} (c_DIGITS : mg "DIGITS" = some (.str "0123456789" t_DIGITS)) :
    FnOk P w K mg base CX0 1 f fd ["text"] (spOf (wd P w K) ps_is_number) := by
  exact F.pure0 sc_is_number (by decide) (psOf_len fun _ => rfl) (fun cdv A outer s H E hr => ⟨_, p_is_number , (pss_cons (ps_if (PW.pt (pw_or (pt_cmpR (op_eqA (room64 hr)) (pv 0) pe_str (nomark _)) (pw_or (pt_cmpR (op_gtU (room64 hr)) (pe_callB call_len (by rfl) (B.len) PySem.boot_len (pa_cons (pv 0) pa_nil)) pe_int (nomark _)) (pw_or1 (pt_val (pe_callB (cr_any (by rfl)) (by rfl) (B.any) (by decide +kernel) (pa_cons (pe_lc (own := [("char", 1)]) rfl sc_is_number.nd (pi_str (pv 0)) (blkOk_by (own := [("char", 1)]) (N := n_is_number) (sc := defScope s_is_number) (by decide +kernel)) (fun _ _ _ _ _ => (pg_name (i := 1) sc_is_number.nd rfl (Or.inl rfl))) (fun _ _ _ _ _ => pts_nil) (fun _ _ _ _ _ => (pe_cmpR (op_notInU (room65 hr)) (pv 1) (pe_glob rfl c_DIGITS rv_str) rfl))) pa_nil))))))) (pss_one (ps_ret pe_bl)) pss_nil)
    (pss_one (ps_ret (pe_or (pe_cmpR (op_eqA (room64 hr)) (pv 0) pe_str (nomark _)) (pe_one (pe_cmpR (op_neA (room64 hr)) (pe_ix ix_seq (pv 0) pe_int (fun _ _ => rfl)) pe_str (nomark _))))))), (purs_seq (purs_if (purt_or (purt_q (purqt_test (purq_op pr_eq purq_var purq_str))) (purt_or (purt_q (purqt_test (purq_op pr_gt (purq_CB pc_len (purqa_cons purq_var purqa_nil)) purq_int))) (purt_B (pure_CB pc_any (pura_cons (pure_o (puro_lc (puri_str pure_var) purg_name (tgin_name (by decide)) purt_yes (pure_q (purq_op pr_notin purq_var purq_str)))) pura_nil))))) (purs_ret (puro_e pure_bl)) purs_next)
    (purs_ret (puro_e (pure_q (purq_orV (purq_op pr_eq purq_var purq_str) (purq_op pr_ne (purq_op pr_ix purq_var purq_int) purq_str)))))), fun as Q X' h => pp_is_number  as Q _ h⟩)
theorem ok_read_record {f : Addr} {fd : FuncData} (F : FnP K "read_record" "read_record" s_read_record f fd) (B : Bl mg)
    {v_KINDS : V} (c_KINDS : Kon K mg "KINDS" v_KINDS k_KINDS)
    {f_is_number : Addr} {fd_is_number : FuncData} (c_is_number : Cal P w K mg base CX0 1 "is_number" ["text"] (spOf (wd P w K) ps_is_number) f_is_number fd_is_number)
    {f_check_number : Addr} {fd_check_number : FuncData} (c_check_number : Cal P w K mg base CX0 1 "check_number" ["text"] (spOf (wd P w K) ps_check_number) f_check_number fd_check_number) :
    FnOk P w K mg base CX0 2 f fd ["data", "at"] (spOf (wd P w K) ps_read_record) := by
  exact F.pure0 sc_read_record (by decide) (psOf_len fun _ => rfl) (fun cdv A outer s H E hr => ⟨_, p_read_record , (pss_cons (ps_set (i := 2) sc_read_record.nd rfl (Or.inl rfl) (pe_ix ix_seq (pe_split (pe_slice sl_cut (pv 0) (po_some (pv 1)) (po_some (pe_op op_plus (pv 1) pe_int))) pe_str) pe_int (fun _ _ => rfl)))
    (pss_cons (ps_set (i := 3) sc_read_record.nd rfl (Or.inl rfl) (pe_split (pv 2) pe_str))
    (pss_cons (ps_if (PW.pt (pw_or (pt_cmpR (op_notInU (room65 hr)) pe_str (pe_slice sl_cut (pv 0) (po_some (pv 1)) (po_some (pe_op op_plus (pv 1) pe_int))) rfl) (pw_or (pt_cmpR (op_neA (room64 hr)) (pe_callB call_len (by rfl) (B.len) PySem.boot_len (pa_cons (pv 3) pa_nil)) pe_int (nomark _)) (pw_or (pt_cmpR (op_notInU (room65 hr)) (pe_ix ix_seq (pv 3) pe_int (fun _ _ => rfl)) (pe_kon rfl c_KINDS) rfl) (pw_or1 (pt_not (pt_val (pe_call c_is_number.ok (hr.mono (by decide)) (by rfl) c_is_number.g c_is_number.k c_is_number.b .nil pass0 (pa_cons (pe_ix ix_seq (pv 3) pe_int (fun _ _ => rfl)) pa_nil))))))))) (pss_one (ps_ret pe_non)) pss_nil)
    (pss_cons (ps_set (i := 4) sc_read_record.nd rfl (Or.inl rfl) (pe_op op_plus (pe_op op_plus (pv 1) (pe_callB call_len (by rfl) (B.len) PySem.boot_len (pa_cons (pv 2) pa_nil))) pe_int))
    (pss_cons (ps_set (i := 5) sc_read_record.nd rfl (Or.inl rfl) (pe_op op_plus (pv 4) (pe_callTy (Pu.CallR.or call_int1 call_int_str) (by rfl) (B.int) (by decide +kernel) (pa_cons (pe_ix ix_seq (pv 3) pe_int (fun _ _ => rfl)) pa_nil))))
    (pss_cons (ps_set (i := 6) sc_read_record.nd rfl (Or.inl rfl) (pe_op op_plus (pe_op op_plus pe_str (pe_callTy (Pu.CallR.or call_str_int SkE.call_str_str) (by rfl) (B.str) (by decide +kernel) (pa_cons (pe_call c_check_number.ok (hr.mono (by decide)) (by rfl) c_check_number.g c_check_number.k c_check_number.b .nil pass0 (pa_cons (pe_slice sl_cut (pv 0) (po_some (pv 1)) (po_some (pv 5))) pa_nil)) pa_nil))) pe_str))
    (pss_cons (ps_if (pt_cmpR (op_neA (room64 hr)) (pe_slice sl_cut (pv 0) (po_some (pv 5)) (po_some (pe_op op_plus (pv 5) (pe_callB call_len (by rfl) (B.len) PySem.boot_len (pa_cons (pv 6) pa_nil))))) (pv 6) (nomark _)) (pss_one (ps_ret pe_non)) pss_nil)
    (pss_one (ps_ret (pe_tup (pa_cons (pe_callTy (Pu.CallR.or call_int1 call_int_str) (by rfl) (B.int) (by decide +kernel) (pa_cons (pe_ix ix_seq (pv 3) pe_int (fun _ _ => rfl)) pa_nil)) (pa_cons (pe_slice sl_cut (pv 0) (po_some (pv 4)) (po_some (pv 5))) (pa_cons (pe_op op_plus (pv 5) (pe_callB call_len (by rfl) (B.len) PySem.boot_len (pa_cons (pv 6) pa_nil))) pa_nil))))))))))))), (purs_seq (purs_set (puro_e (pure_op pr_ix (pure_m1 pr_split (pure_cut pure_var (purqo_part purq_var) (purqo_part (purq_op pr_plus purq_var purq_int))) pure_str) pure_int)))
    (purs_seq (purs_set (puro_e (pure_m1 pr_split pure_var pure_str)))
    (purs_seq (purs_if (purt_q (purqt_or (purqt_test (purq_op pr_notin purq_str (purq_cut purq_var (purqo_part purq_var) (purqo_part (purq_op pr_plus purq_var purq_int))))) (purqt_or (purqt_test (purq_op pr_ne (purq_CB pc_len (purqa_cons purq_var purqa_nil)) purq_int)) (purqt_or (purqt_test (purq_op pr_notin (purq_op pr_ix purq_var purq_int) (purq_C fun G => c_KINDS.fr _ G rfl))) (purqt_not (purqt_B (purq_call (purqa_cons (purq_op pr_ix purq_var purq_int) purqa_nil)))))))) (purs_ret (puro_e pure_non)) purs_next)
    (purs_seq (purs_set (puro_e (pure_op pr_plus (pure_op pr_plus pure_var (pure_q (purq_CB pc_len (purqa_cons purq_var purqa_nil)))) pure_int)))
    (purs_seq (purs_set (puro_e (pure_op pr_plus pure_var (pure_CB pc_int (pura_cons (pure_ixv purq_int) pura_nil)))))
    (purs_seq (purs_set (puro_e (pure_op pr_plus (pure_op pr_plus pure_str (pure_CB pc_str (pura_cons (pure_o (puro_call0 (purca_val (pure_cut pure_var (purqo_part purq_var) (purqo_part purq_var)) purca_nil))) pura_nil))) pure_str)))
    (purs_seq (purs_if (purt_q (purqt_test (purq_op pr_ne (purq_cut purq_var (purqo_part purq_var) (purqo_part (purq_op pr_plus purq_var (purq_CB pc_len (purqa_cons purq_var purqa_nil))))) purq_var))) (purs_ret (puro_e pure_non)) purs_next)
    (purs_ret (puro_e (pure_tup (pura_cons (pure_CB pc_int (pura_cons (pure_ixv purq_int) pura_nil)) (pura_cons (pure_cut pure_var (purqo_part purq_var) (purqo_part purq_var)) (pura_cons (pure_op pr_plus pure_var (pure_q (purq_CB pc_len (purqa_cons purq_var purqa_nil)))) pura_nil))))))))))))), fun as Q X' h => pp_read_record  as Q _ h⟩)
theorem ok_read_records {f : Addr} {fd : FuncData} (F : FnP K "read_records" "read_records" s_read_records f fd) (B : Bl mg)
    {f_read_record : Addr} {fd_read_record : FuncData} (c_read_record : Cal P w K mg base CX0 2 "read_record" ["data", "at"] (spOf (wd P w K) ps_read_record) f_read_record fd_read_record) :
    FnOk P w K mg base CX0 3 f fd ["data"] (spOf (wd P w K) ps_read_records) := by
  exact F.pure0 sc_read_records (by decide) (psOf_len fun _ => rfl) (fun cdv A outer s H E hr => ⟨_, p_read_records , (pss_cons (ps_set (i := 1) sc_read_records.nd rfl (Or.inl rfl) (pe_lst pa_nil))
    (pss_cons (ps_set (i := 2) sc_read_records.nd rfl (Or.inl rfl) pe_int)
    (pss_cons (ps_set (i := 3) sc_read_records.nd rfl (Or.inl rfl) (pe_call c_read_record.ok (hr.mono (by decide)) (by rfl) c_read_record.g c_read_record.k c_read_record.b .nil pass0 (pa_cons (pv 0) (pa_cons (pv 2) pa_nil))))
    (pss_cons (ps_while PassesOwn.never (pt_cmpR op_notN (pv 3) pe_non (nomark _)) (pss_cons (ps_asg (pv 3) (pg_tup rfl (pgs_cons (pg_name (i := 4) sc_read_records.nd rfl (Or.inl rfl)) (pgs_cons (pg_name (i := 5) sc_read_records.nd rfl (Or.inl rfl)) (pgs_cons (pg_name (i := 2) sc_read_records.nd rfl (Or.inl rfl)) pgs_nil)))))
    (pss_cons (ps_expr (pe_bm PySem.F.plainAttrs_list PySem.F.slot_list_append PySem.F.type_list_append mt_append (pv 1) (pa_cons (pe_tup (pa_cons (pv 4) (pa_cons (pv 5) pa_nil))) pa_nil)))
    (pss_one (ps_set (i := 3) sc_read_records.nd rfl (Or.inl rfl) (pe_call c_read_record.ok (hr.mono (by decide)) (by rfl) c_read_record.g c_read_record.k c_read_record.b .nil pass0 (pa_cons (pv 0) (pa_cons (pv 2) pa_nil))))))))
    (pss_one (ps_ret (pe_tup (pa_cons (pv 1) (pa_cons (pv 2) pa_nil))))))))), (purs_seq (purs_set (puro_lst pura_nil))
    (purs_seq (purs_set (puro_e pure_int))
    (purs_seq (purs_set (puro_e (pure_o (puro_call0 (purca_val pure_var (purca_val pure_var purca_nil))))))
    (purs_seq (purs_while (purt_q (purqt_test (purq_op pr_notN purq_var purq_non))) (purs_seq (purs_asg (purg_tup (purgs_cons purg_name (purgs_cons purg_name (purgs_cons purg_name purgs_nil)))) pure_var)
    (purs_seq (purs_app (pure_tup (pura_cons pure_var (pura_cons pure_var pura_nil))))
    (purs_set (puro_e (pure_o (puro_call0 (purca_val pure_var (purca_val pure_var purca_nil)))))))))
    (purs_ret (puro_e (pure_tup (pura_cons pure_var (pura_cons pure_var pura_nil))))))))), fun as Q X' h => pp_read_records  as Q _ h⟩)
theorem ok_law_read {f : Addr} {fd : FuncData} (F : FnP K "_law_read" "_law_read" s_law_read f fd) (B : Bl mg)
    {f_law_record : Addr} {fd_law_record : FuncData} (c_law_record : Cal P w K mg base CX0 1 "_law_record" ["_law_kind", "_law_text"] (spOf (wd P w K) ps_law_record) f_law_record fd_law_record) :
    FnOk P w K mg base CX0 2 f fd ["_law_data"] (spOf (wd P w K) ps_law_read) := by
  exact F.pure0 sc_law_read (by decide) (psOf_len fun _ => rfl) (fun cdv A outer s H E hr => ⟨_, p_law_read , (pss_cons (ps_set (i := 1) sc_law_read.nd rfl (Or.inl rfl) (pe_lst pa_nil))
    (pss_cons (ps_set (i := 2) sc_law_read.nd rfl (Or.inl rfl) pe_int)
    (pss_cons (ps_for PassesOwn.never rfl (pi_range1 (by rfl) (B.range) (pa_cons (pe_op op_fdiv (pe_callB call_len (by rfl) (B.len) PySem.boot_len (pa_cons (pv 0) pa_nil)) pe_int) pa_nil)) (pg_name (i := 3) sc_law_read.nd rfl (Or.inl rfl)) (pss_cons (ps_set (i := 4) sc_law_read.nd rfl (Or.inl rfl) pe_non)
    (pss_cons (ps_for PassesOwn.never rfl (pi_tup (pe_tup (pa_cons pe_int (pa_cons pe_int (pa_cons pe_int pa_nil))))) (pg_name (i := 5) sc_law_read.nd rfl (Or.inl rfl)) (pss_one (ps_for PassesOwn.never rfl (pi_range1 (by rfl) (B.range) (pa_cons (pe_op op_sub (pe_callB call_len (by rfl) (B.len) PySem.boot_len (pa_cons (pv 0) pa_nil)) (pv 2)) pa_nil)) (pg_name (i := 6) sc_law_read.nd rfl (Or.inl rfl)) (pss_cons (ps_set (i := 7) sc_law_read.nd rfl (Or.inl rfl) (pe_op op_plus (pe_op op_plus (pe_op op_plus (pe_callTy (Pu.CallR.or call_str_int SkE.call_str_str) (by rfl) (B.str) (by decide +kernel) (pa_cons (pv 5) pa_nil)) pe_str) (pe_callTy (Pu.CallR.or call_str_int SkE.call_str_str) (by rfl) (B.str) (by decide +kernel) (pa_cons (pv 6) pa_nil))) pe_str))
    (pss_cons (ps_set (i := 8) sc_law_read.nd rfl (Or.inl rfl) (pe_slice sl_cut (pv 0) (po_some (pe_op op_plus (pv 2) (pe_callB call_len (by rfl) (B.len) PySem.boot_len (pa_cons (pv 7) pa_nil)))) (po_some (pe_op op_plus (pe_op op_plus (pv 2) (pe_callB call_len (by rfl) (B.len) PySem.boot_len (pa_cons (pv 7) pa_nil))) (pv 6)))))
    (pss_one (ps_if (PW.pt (pw_and (pt_cmpR (op_eqA (room64 hr)) (pe_slice sl_cut (pv 0) (po_some (pv 2)) (po_some (pe_op op_plus (pv 2) (pe_callB call_len (by rfl) (B.len) PySem.boot_len (pa_cons (pv 7) pa_nil))))) (pv 7) (nomark _)) (pw_and1 (pt_cmpR (op_eqA (room64 hr)) (pe_slice sl_cut (pv 0) (po_some (pv 2)) (po_some (pe_op op_plus (pv 2) (pe_callB call_len (by rfl) (B.len) PySem.boot_len (pa_cons (pe_call c_law_record.ok (hr.mono (by decide)) (by rfl) c_law_record.g c_law_record.k c_law_record.b .nil pass0 (pa_cons (pv 5) (pa_cons (pv 8) pa_nil))) pa_nil))))) (pe_call c_law_record.ok (hr.mono (by decide)) (by rfl) c_law_record.g c_law_record.k c_law_record.b .nil pass0 (pa_cons (pv 5) (pa_cons (pv 8) pa_nil))) (nomark _))))) (pss_one (ps_set (i := 4) sc_law_read.nd rfl (Or.inl rfl) (pe_tup (pa_cons (pv 5) (pa_cons (pv 8) pa_nil))))) pss_nil)))))))
    (pss_cons (ps_if (pt_cmpR op_isN (pv 4) pe_non (nomark _)) (pss_one ps_break) pss_nil)
    (pss_cons (ps_expr (pe_bm PySem.F.plainAttrs_list PySem.F.slot_list_append PySem.F.type_list_append mt_append (pv 1) (pa_cons (pv 4) pa_nil)))
    (pss_one (ps_set (i := 2) sc_law_read.nd rfl (Or.inl rfl) (pe_op op_plus (pv 2) (pe_callB call_len (by rfl) (B.len) PySem.boot_len (pa_cons (pe_call c_law_record.ok (hr.mono (by decide)) (by rfl) c_law_record.g c_law_record.k c_law_record.b .nil pass0 (pa_cons (pe_ix ix_seq (pv 4) pe_int (fun _ _ => rfl)) (pa_cons (pe_ix ix_seq (pv 4) pe_int (fun _ _ => rfl)) pa_nil))) pa_nil))))))))))
    (pss_one (ps_ret (pe_tup (pa_cons (pv 1) (pa_cons (pv 2) pa_nil)))))))), (purs_seq (purs_set (puro_lst pura_nil))
    (purs_seq (purs_set (puro_e pure_int))
    (purs_seq (purs_for (puri_r1 (pura_cons (pure_op pr_I (pure_q (purq_CB pc_len (purqa_cons purq_var purqa_nil))) pure_int) pura_nil)) purg_name (purs_seq (purs_set (puro_e pure_non))
    (purs_seq (purs_for (puri_tup (pure_tup (pura_cons pure_int (pura_cons pure_int (pura_cons pure_int pura_nil))))) purg_name (purs_for (puri_r1 (pura_cons (pure_op pr_I0 (pure_q (purq_CB pc_len (purqa_cons purq_var purqa_nil))) pure_var) pura_nil)) purg_name (purs_seq (purs_set (puro_e (pure_op pr_plus (pure_op pr_plus (pure_op pr_plus (pure_CB pc_str (pura_cons pure_var pura_nil)) pure_str) (pure_CB pc_str (pura_cons pure_var pura_nil))) pure_str)))
    (purs_seq (purs_set (puro_e (pure_cut pure_var (purqo_part (purq_op pr_plus purq_var (purq_CB pc_len (purqa_cons purq_var purqa_nil)))) (purqo_part (purq_op pr_plus (purq_op pr_plus purq_var (purq_CB pc_len (purqa_cons purq_var purqa_nil))) purq_var)))))
    (purs_if (purt_q (purqt_and (purqt_test (purq_op pr_eq (purq_cut purq_var (purqo_part purq_var) (purqo_part (purq_op pr_plus purq_var (purq_CB pc_len (purqa_cons purq_var purqa_nil))))) purq_var)) (purqt_test (purq_op pr_eq (purq_cut purq_var (purqo_part purq_var) (purqo_part (purq_op pr_plus purq_var (purq_CB pc_len (purqa_cons (purq_call (purqa_cons purq_var (purqa_cons purq_var purqa_nil))) purqa_nil))))) (purq_call (purqa_cons purq_var (purqa_cons purq_var purqa_nil))))))) (purs_set (puro_e (pure_tup (pura_cons pure_var (pura_cons pure_var pura_nil))))) purs_next)))))
    (purs_seq (purs_if (purt_q (purqt_test (purq_op pr_isN purq_var purq_non))) purs_break purs_next)
    (purs_seq (purs_app pure_var)
    (purs_set (puro_e (pure_op pr_plus pure_var (pure_q (purq_CB pc_len (purqa_cons (purq_call (purqa_cons (purq_op pr_ix purq_var purq_int) (purqa_cons (purq_op pr_ix purq_var purq_int) purqa_nil))) purqa_nil)))))))))))
    (purs_ret (puro_e (pure_tup (pura_cons pure_var (pura_cons pure_var pura_nil)))))))), fun as Q X' h => pp_law_read  as Q _ h⟩)
theorem ok_law {f : Addr} {fd : FuncData} (F : FnP K "law" "law" s_law f fd) (B : Bl mg)
    {f_law_state : Addr} {fd_law_state : FuncData} (c_law_state : Cal P w K mg base CX0 1 "_law_state" ["_law_script"] (spOf (wd P w K) ps_law_state) f_law_state fd_law_state)
    {f_law_draw : Addr} {fd_law_draw : FuncData} (c_law_draw : Cal P w K mg base CX0 1 "_law_draw" ["_law_state_here", "_law_many"] (spOf (wd P w K) ps_law_draw) f_law_draw fd_law_draw)
    {f_law_pick : Addr} {fd_law_pick : FuncData} (c_law_pick : Cal P w K mg base CX0 2 "_law_pick" ["_law_state_here", "_law_row"] (spOf (wd P w K) ps_law_pick) f_law_pick fd_law_pick)
    {f_law_record : Addr} {fd_law_record : FuncData} (c_law_record : Cal P w K mg base CX0 1 "_law_record" ["_law_kind", "_law_text"] (spOf (wd P w K) ps_law_record) f_law_record fd_law_record)
    {f_record_text : Addr} {fd_record_text : FuncData} (c_record_text : Cal P w K mg base CX0 2 "record_text" ["kind", "text"] (spOf (wd P w K) ps_record_text) f_record_text fd_record_text)
    {f_read_records : Addr} {fd_read_records : FuncData} (c_read_records : Cal P w K mg base CX0 3 "read_records" ["data"] (spOf (wd P w K) ps_read_records) f_read_records fd_read_records)
    {f_law_read : Addr} {fd_law_read : FuncData} (c_law_read : Cal P w K mg base CX0 2 "_law_read" ["_law_data"] (spOf (wd P w K) ps_law_read) f_law_read fd_law_read)
    {f_check_number : Addr} {fd_check_number : FuncData} (c_check_number : Cal P w K mg base CX0 1 "check_number" ["text"] (spOf (wd P w K) ps_check_number) f_check_number fd_check_number) :
    FnOk P w K mg base CX0 4 f fd ["_law_script"] (spOf (wd P w K) psLaw) := by
  exact F.pure0 sc_law (by decide) (by rintro as Q Xc ⟨_, rfl, _⟩; rfl) (fun cdv A outer s H E hr => ⟨_, p_law , (pss_cons (ps_set (i := 1) sc_law.nd rfl (Or.inl rfl) (pe_call c_law_state.ok (hr.mono (by decide)) (by rfl) c_law_state.g c_law_state.k c_law_state.b .nil pass0 (pa_cons (pv 0) pa_nil)))
    (pss_cons (ps_set (i := 2) sc_law.nd rfl (Or.inl rfl) pe_str)
    (pss_cons (ps_set (i := 3) sc_law.nd rfl (Or.inl rfl) (pe_lst pa_nil))
    (pss_cons (ps_for PassesOwn.never rfl (pi_range1 (by rfl) (B.range) (pa_cons (pe_call c_law_draw.ok (hr.mono (by decide)) (by rfl) c_law_draw.g c_law_draw.k c_law_draw.b .nil pass0 (pa_cons (pv 1) (pa_cons pe_int pa_nil))) pa_nil)) (pg_name (i := 4) sc_law.nd rfl (Or.inl rfl)) (pss_cons (ps_set (i := 5) sc_law.nd rfl (Or.inl rfl) (pe_call c_law_pick.ok (hr.mono (by decide)) (by rfl) c_law_pick.g c_law_pick.k c_law_pick.b .nil pass0 (pa_cons (pv 1) (pa_cons (pe_lst (pa_cons pe_int (pa_cons pe_int (pa_cons pe_int (pa_cons pe_int pa_nil))))) pa_nil))))
    (pss_cons (ps_set (i := 6) sc_law.nd rfl (Or.inl rfl) (pe_call c_law_pick.ok (hr.mono (by decide)) (by rfl) c_law_pick.g c_law_pick.k c_law_pick.b .nil pass0 (pa_cons (pv 1) (pa_cons (pe_lst (pa_cons pe_str (pa_cons pe_str (pa_cons pe_str (pa_cons (pe_call c_law_record.ok (hr.mono (by decide)) (by rfl) c_law_record.g c_law_record.k c_law_record.b .nil pass0 (pa_cons pe_int (pa_cons pe_str pa_nil))) (pa_cons (pe_op op_times pe_str (pe_call c_law_draw.ok (hr.mono (by decide)) (by rfl) c_law_draw.g c_law_draw.k c_law_draw.b .nil pass0 (pa_cons (pv 1) (pa_cons pe_int pa_nil)))) (pa_cons pe_str (pa_cons pe_str pa_nil)))))))) pa_nil))))
    (pss_cons (ps_set (i := 7) sc_law.nd rfl (Or.inl rfl) (pe_call c_record_text.ok (hr.mono (by decide)) (by rfl) c_record_text.g c_record_text.k c_record_text.b .nil pass0 (pa_cons (pv 5) (pa_cons (pv 6) pa_nil))))
    (pss_cons (ps_if (pt_cmpR (op_neA (room64 hr)) (pv 7) (pe_call c_law_record.ok (hr.mono (by decide)) (by rfl) c_law_record.g c_law_record.k c_law_record.b .nil pass0 (pa_cons (pv 5) (pa_cons (pv 6) pa_nil))) (nomark _)) (pss_one (ps_ret pe_bl)) pss_nil)
    (pss_cons (ps_set (i := 2) sc_law.nd rfl (Or.inl rfl) (pe_op op_plus (pv 2) (pv 7)))
    (pss_one (ps_expr (pe_bm PySem.F.plainAttrs_list PySem.F.slot_list_append PySem.F.type_list_append mt_append (pv 3) (pa_cons (pe_tup (pa_cons (pv 5) (pa_cons (pv 6) pa_nil))) pa_nil))))))))))
    (pss_cons (ps_if (PW.pt (pw_or (pt_cmpR (op_neA (room64 hr)) (pe_call c_read_records.ok (hr.mono (by decide)) (by rfl) c_read_records.g c_read_records.k c_read_records.b .nil pass0 (pa_cons (pv 2) pa_nil)) (pe_tup (pa_cons (pv 3) (pa_cons (pe_callB call_len (by rfl) (B.len) PySem.boot_len (pa_cons (pv 2) pa_nil)) pa_nil))) (nomark _)) (pw_or1 (pt_cmpR (op_neA (room64 hr)) (pe_call c_read_records.ok (hr.mono (by decide)) (by rfl) c_read_records.g c_read_records.k c_read_records.b .nil pass0 (pa_cons pe_str pa_nil)) (pe_tup (pa_cons (pe_lst pa_nil) (pa_cons pe_int pa_nil))) (nomark _))))) (pss_one (ps_ret pe_bl)) pss_nil)
    (pss_cons (ps_for PassesOwn.never rfl (pi_range1 (by rfl) (B.range) (pa_cons pe_int pa_nil)) (pg_name (i := 4) sc_law.nd rfl (Or.inl rfl)) (pss_cons (ps_set (i := 8) sc_law.nd rfl (Or.inl rfl) (pe_call c_law_draw.ok (hr.mono (by decide)) (by rfl) c_law_draw.g c_law_draw.k c_law_draw.b .nil pass0 (pa_cons (pv 1) (pa_cons (pe_op op_plus (pe_callB call_len (by rfl) (B.len) PySem.boot_len (pa_cons (pv 2) pa_nil)) pe_int) pa_nil))))
    (pss_cons (ps_set (i := 9) sc_law.nd rfl (Or.inl rfl) (pe_call c_law_pick.ok (hr.mono (by decide)) (by rfl) c_law_pick.g c_law_pick.k c_law_pick.b .nil pass0 (pa_cons (pv 1) (pa_cons (pe_lst (pa_cons pe_str (pa_cons pe_str (pa_cons pe_str (pa_cons pe_str (pa_cons pe_str (pa_cons pe_str (pa_cons pe_str pa_nil)))))))) pa_nil))))
    (pss_cons (ps_set (i := 10) sc_law.nd rfl (Or.inl rfl) (pe_call c_law_pick.ok (hr.mono (by decide)) (by rfl) c_law_pick.g c_law_pick.k c_law_pick.b .nil pass0 (pa_cons (pv 1) (pa_cons (pe_lst (pa_cons (pe_slice sl_cut (pv 2) po_none (po_some (pv 8))) (pa_cons (pe_op op_plus (pe_op op_plus (pe_slice sl_cut (pv 2) po_none (po_some (pv 8))) (pv 9)) (pe_slice sl_cut (pv 2) (po_some (pe_op op_plus (pv 8) pe_int)) po_none)) (pa_cons (pe_op op_plus (pe_slice sl_cut (pv 2) po_none (po_some (pv 8))) (pe_slice sl_cut (pv 2) (po_some (pe_op op_plus (pv 8) pe_int)) po_none)) (pa_cons (pe_op op_plus (pe_op op_plus (pe_slice sl_cut (pv 2) po_none (po_some (pv 8))) (pv 9)) (pe_slice sl_cut (pv 2) (po_some (pv 8)) po_none)) (pa_cons (pe_op op_plus (pv 2) pe_str) pa_nil)))))) pa_nil))))
    (pss_cons (ps_set (i := 7) sc_law.nd rfl (Or.inl rfl) (pe_call c_read_records.ok (hr.mono (by decide)) (by rfl) c_read_records.g c_read_records.k c_read_records.b .nil pass0 (pa_cons (pv 10) pa_nil)))
    (pss_one (ps_if (PW.pt (pw_or (pt_not (pt_val (pe_callB call_isi (by rfl) (B.isinstance) (by decide +kernel) (pa_cons (pv 7) (pa_cons (pe_bltn (by rfl) (B.tuple) (by decide +kernel) (rv_ty (n := "tuple"))) pa_nil))))) (pw_or1 (PW.pt (pw_and (pt_cmpR (op_leU (room64 hr)) (pe_callB call_len (by rfl) (B.len) PySem.boot_len (pa_cons (pv 10) pa_nil)) pe_int (nomark _)) (pw_and1 (pt_cmpR (op_neA (room64 hr)) (pv 7) (pe_call c_law_read.ok (hr.mono (by decide)) (by rfl) c_law_read.g c_law_read.k c_law_read.b .nil pass0 (pa_cons (pv 10) pa_nil)) (nomark _)))))))) (pss_one (ps_ret pe_bl)) pss_nil)))))))
    (pss_one (ps_ret (pe_cmpR (op_eqA (room64 hr)) (pe_call c_check_number.ok (hr.mono (by decide)) (by rfl) c_check_number.g c_check_number.k c_check_number.b .nil pass0 (pa_cons pe_str pa_nil)) pe_int (nomark _)))))))))), (purs_seq (purs_set (puro_call0 (purca_val pure_var purca_nil)))
    (purs_seq (purs_set (puro_e pure_str))
    (purs_seq (purs_set (puro_lst pura_nil))
    (purs_seq (purs_for (puri_r1 (pura_cons (pure_o (puro_call0 (purca_ref (purca_val pure_int purca_nil)))) pura_nil)) purg_name (purs_seq (purs_set (puro_e (pure_o (puro_call0 (purca_ref (purca_val (pure_lst (pura_cons pure_int (pura_cons pure_int (pura_cons pure_int (pura_cons pure_int pura_nil))))) purca_nil))))))
    (purs_seq (purs_set (puro_e (pure_o (puro_call0 (purca_ref (purca_val (pure_lst (pura_cons pure_str (pura_cons pure_str (pura_cons pure_str (pura_cons (pure_o (puro_call0 (purca_val pure_int (purca_val pure_str purca_nil)))) (pura_cons (pure_op pr_times pure_str (pure_o (puro_call0 (purca_ref (purca_val pure_int purca_nil))))) (pura_cons pure_str (pura_cons pure_str pura_nil)))))))) purca_nil))))))
    (purs_seq (purs_set (puro_e (pure_o (puro_call0 (purca_val pure_var (purca_val pure_var purca_nil))))))
    (purs_seq (purs_if (purt_q (purqt_test (purq_op pr_ne purq_var (purq_call (purqa_cons purq_var (purqa_cons purq_var purqa_nil)))))) (purs_ret (puro_e pure_bl)) purs_next)
    (purs_seq (purs_set (puro_e (pure_op pr_plus pure_var pure_var)))
    (purs_app (pure_tup (pura_cons pure_var (pura_cons pure_var pura_nil))))))))))
    (purs_seq (purs_if (purt_q (purqt_or (purqt_test (purq_op pr_ne (purq_call (purqa_cons purq_var purqa_nil)) (purq_tup (purqa_cons purq_var (purqa_cons (purq_CB pc_len (purqa_cons purq_var purqa_nil)) purqa_nil))))) (purqt_test (purq_op pr_ne (purq_call (purqa_cons purq_str purqa_nil)) (purq_tup (purqa_cons (purq_lst purqa_nil) (purqa_cons purq_int purqa_nil))))))) (purs_ret (puro_e pure_bl)) purs_next)
    (purs_seq (purs_for (puri_r1 (pura_cons pure_int pura_nil)) purg_name (purs_seq (purs_set (puro_e (pure_o (puro_call0 (purca_ref (purca_val (pure_op pr_plus (pure_q (purq_CB pc_len (purqa_cons purq_var purqa_nil))) pure_int) purca_nil))))))
    (purs_seq (purs_set (puro_e (pure_o (puro_call0 (purca_ref (purca_val (pure_lst (pura_cons pure_str (pura_cons pure_str (pura_cons pure_str (pura_cons pure_str (pura_cons pure_str (pura_cons pure_str (pura_cons pure_str pura_nil)))))))) purca_nil))))))
    (purs_seq (purs_set (puro_e (pure_o (puro_call0 (purca_ref (purca_val (pure_lst (pura_cons (pure_cut pure_var purqo_no (purqo_part purq_var)) (pura_cons (pure_op pr_plus (pure_op pr_plus (pure_cut pure_var purqo_no (purqo_part purq_var)) pure_var) (pure_cut pure_var (purqo_part (purq_op pr_plus purq_var purq_int)) purqo_no)) (pura_cons (pure_op pr_plus (pure_cut pure_var purqo_no (purqo_part purq_var)) (pure_cut pure_var (purqo_part (purq_op pr_plus purq_var purq_int)) purqo_no)) (pura_cons (pure_op pr_plus (pure_op pr_plus (pure_cut pure_var purqo_no (purqo_part purq_var)) pure_var) (pure_cut pure_var (purqo_part purq_var) purqo_no)) (pura_cons (pure_op pr_plus pure_var pure_str) pura_nil)))))) purca_nil))))))
    (purs_seq (purs_set (puro_e (pure_o (puro_call0 (purca_val pure_var purca_nil)))))
    (purs_if (purt_q (purqt_or (purqt_not (purqt_B (purq_CB pc_isi (purqa_cons purq_var (purqa_cons purq_ty purqa_nil))))) (purqt_and (purqt_test (purq_op pr_le (purq_CB pc_len (purqa_cons purq_var purqa_nil)) purq_int)) (purqt_test (purq_op pr_ne purq_var (purq_call (purqa_cons purq_var purqa_nil))))))) (purs_ret (puro_e pure_bl)) purs_next))))))
    (purs_ret (puro_e (pure_q (purq_op pr_eq (purq_call (purqa_cons purq_str purqa_nil)) purq_int)))))))))), fun as Q X' h => pp_law  as Q _ h⟩)
end

end Lk70

set_option Elab.async false
set_option linter.all false
set_option maxRecDepth 100000
set_option maxHeartbeats 0
namespace Lk70
open PySem PySem.Spec PyProof.Rows L2 Pu
def d_law_state : He.DefD := ⟨("_law_state", none), "_law_state", "_law_state", defArgs s_law_state, defBody s_law_state, defScope s_law_state, [], []⟩
def d_law_draw : He.DefD := ⟨("_law_draw", none), "_law_draw", "_law_draw", defArgs s_law_draw, defBody s_law_draw, defScope s_law_draw, [], []⟩
def d_law_pick : He.DefD := ⟨("_law_pick", none), "_law_pick", "_law_pick", defArgs s_law_pick, defBody s_law_pick, defScope s_law_pick, [], []⟩
def d_law_record : He.DefD := ⟨("_law_record", none), "_law_record", "_law_record", defArgs s_law_record, defBody s_law_record, defScope s_law_record, [], []⟩
def d_check_number : He.DefD := ⟨("check_number", none), "check_number", "check_number", defArgs s_check_number, defBody s_check_number, defScope s_check_number, [], []⟩
def d_record_text : He.DefD := ⟨("record_text", none), "record_text", "record_text", defArgs s_record_text, defBody s_record_text, defScope s_record_text, [], []⟩
def d_is_number : He.DefD := ⟨("is_number", none), "is_number", "is_number", defArgs s_is_number, defBody s_is_number, defScope s_is_number, [], []⟩
def d_read_record : He.DefD := ⟨("read_record", none), "read_record", "read_record", defArgs s_read_record, defBody s_read_record, defScope s_read_record, [], []⟩
def d_read_records : He.DefD := ⟨("read_records", none), "read_records", "read_records", defArgs s_read_records, defBody s_read_records, defScope s_read_records, [], []⟩
def d_law_read : He.DefD := ⟨("_law_read", none), "_law_read", "_law_read", defArgs s_law_read, defBody s_law_read, defScope s_law_read, [], []⟩
def d_law : He.DefD := ⟨("law", none), "law", "law", defArgs s_law, defBody s_law, defScope s_law, [], []⟩
def fn : List He.DefD := [d_law_state, d_law_draw, d_law_pick, d_law_record, d_check_number, d_record_text, d_is_number, d_read_record, d_read_records, d_law_read, d_law]
def fa : List He.Fa := [.free "abs", .free "any", .free "int", .free "isinstance", .free "len", .free "ord", .free "range", .free "str", .free "tuple", .glo "_law_state", .glo "_law_draw", .glo "_law_pick", .glo "_law_record", .glo "check_number", .glo "record_text", .glo "is_number", .glo "read_record", .glo "read_records", .glo "_law_read", .glo "law", .int "MODULUS" 4294967291, .str "DIGITS" "0123456789"]
def exB (K : PySem.W.Frag) : Bool := konB K "KINDS" k_KINDS && (true)
abbrev R : PySem.W.OpenRow := PySem.W.OpenLaw.row PySem.Challenge.rw_quiltward_k70_records_on_tapes
abbrev hk : PySem.W.Hook := hookE 4 fa fn exB
def ob (s : PySem.W.SharedT) : AlE := obsEG 4 fa fn exB (HandSHeadRun.getT s)
theorem ob_eq (s : PySem.W.SharedT) : ob s = hk.obs s.abs := obsEG_eq (HandSHeadRun.getT_eq s)
def loose : List PySem.Str := (["__name__", "MODULUS", "DIGITS", "KINDS", "check_number", "record_text", "is_number", "read_record", "read_records", "_law_state", "_law_draw", "_law_pick", "_law_record", "_law_read"] : List PySem.Str)
theorem run (w : World) : HandSHeadRun.RunEq R (PySem.W.view R.prog [15]) hk ob 4000 loose w := by
  intro os
  kernel_rfl
theorem facts {P : Program} {w : World} {K : PySem.W.Frag} {h : Heap} {mg : Str → Option Value} {f : Addr} (X : K.In h) (G : h.Ns mainGlobals mg) (hfa : mg ("law" : Str) = some (.ref f)) (c : He.SaysD fa fn K) (ex : exB K = true) :
    ∃ fd : FuncData, (∀ (s : Shared) (v : Value), BindsTo s fd ⟨[v], []⟩ [("_law_script", v)]) ∧ ∀ base : Heap, K.In base → base.Ns mainGlobals mg → FnOk P w K mg base CX0 4 f fd ["_law_script"] (spOf (wd P w K) psLaw) := by
  obtain ⟨fd_law_state, F_law_state⟩ := c.def_ 0 (d := d_law_state) rfl
  obtain ⟨fd_law_draw, F_law_draw⟩ := c.def_ 1 (d := d_law_draw) rfl
  obtain ⟨fd_law_pick, F_law_pick⟩ := c.def_ 2 (d := d_law_pick) rfl
  obtain ⟨fd_law_record, F_law_record⟩ := c.def_ 3 (d := d_law_record) rfl
  obtain ⟨fd_check_number, F_check_number⟩ := c.def_ 4 (d := d_check_number) rfl
  obtain ⟨fd_record_text, F_record_text⟩ := c.def_ 5 (d := d_record_text) rfl
  obtain ⟨fd_is_number, F_is_number⟩ := c.def_ 6 (d := d_is_number) rfl
  obtain ⟨fd_read_record, F_read_record⟩ := c.def_ 7 (d := d_read_record) rfl
  obtain ⟨fd_read_records, F_read_records⟩ := c.def_ 8 (d := d_read_records) rfl
  obtain ⟨fd_law_read, F_law_read⟩ := c.def_ 9 (d := d_law_read) rfl
  obtain ⟨fd_law, F_law⟩ := c.def_ 10 (d := d_law) rfl
  have hl := hfa.symm.trans (He.glo_ok X G (c.fact 19 (f := .glo "law") rfl))
  cases hl
  have bl := FunD.bindsA (ps := ["_law_script"]) F_law fun _ _ _ _ _ _ us hl => match us, hl with | [_], _ => rfl
  refine ⟨fd_law, fun s v => bl s [v] rfl, fun base _ _ => ?_⟩
  have B : Bl mg := ⟨He.free_ok X G (c.fact 0 (f := .free "abs") rfl), He.free_ok X G (c.fact 1 (f := .free "any") rfl), He.free_ok X G (c.fact 2 (f := .free "int") rfl), He.free_ok X G (c.fact 3 (f := .free "isinstance") rfl), He.free_ok X G (c.fact 4 (f := .free "len") rfl), He.free_ok X G (c.fact 5 (f := .free "ord") rfl), He.free_ok X G (c.fact 6 (f := .free "range") rfl), He.free_ok X G (c.fact 7 (f := .free "str") rfl), He.free_ok X G (c.fact 8 (f := .free "tuple") rfl)⟩
  obtain ⟨t_MODULUS, c_MODULUS⟩ := He.int_ok X G (c.fact 20 (f := .int "MODULUS" 4294967291) rfl)
  obtain ⟨t_DIGITS, c_DIGITS⟩ := He.str_ok X G (c.fact 21 (f := .str "DIGITS" "0123456789") rfl)
  unfold exB at ex
  rw [Bool.and_eq_true] at ex
  obtain ⟨z_KINDS, ex⟩ := ex
  have c_KINDS := konB_ok P w X G z_KINDS
  have c_law_state : Cal P w K mg base CX0 1 "_law_state" ["_law_script"] (spOf (wd P w K) ps_law_state) (He.ga K "_law_state") fd_law_state := ⟨ok_law_state F_law_state B , F_law_state.bindsN fun _ _ _ _ _ _ us hl => match us, hl with | [_], _ => rfl, He.glo_ok X G (c.fact 9 (f := .glo "_law_state") rfl), F_law_state.kp⟩
  have c_law_draw : Cal P w K mg base CX0 1 "_law_draw" ["_law_state_here", "_law_many"] (spOf (wd P w K) psDraw) (He.ga K "_law_draw") fd_law_draw := ⟨ok_law_draw F_law_draw B , F_law_draw.bindsN fun _ _ _ _ _ _ us hl => match us, hl with | [_, _], _ => rfl, He.glo_ok X G (c.fact 10 (f := .glo "_law_draw") rfl), F_law_draw.kp⟩
  have c_law_pick : Cal P w K mg base CX0 2 "_law_pick" ["_law_state_here", "_law_row"] (spOf (wd P w K) ps_law_pick) (He.ga K "_law_pick") fd_law_pick := ⟨ok_law_pick F_law_pick B c_law_draw, F_law_pick.bindsN fun _ _ _ _ _ _ us hl => match us, hl with | [_, _], _ => rfl, He.glo_ok X G (c.fact 11 (f := .glo "_law_pick") rfl), F_law_pick.kp⟩
  have c_law_record : Cal P w K mg base CX0 1 "_law_record" ["_law_kind", "_law_text"] (spOf (wd P w K) ps_law_record) (He.ga K "_law_record") fd_law_record := ⟨ok_law_record F_law_record B , F_law_record.bindsN fun _ _ _ _ _ _ us hl => match us, hl with | [_, _], _ => rfl, He.glo_ok X G (c.fact 12 (f := .glo "_law_record") rfl), F_law_record.kp⟩
  have c_check_number : Cal P w K mg base CX0 1 "check_number" ["text"] (spOf (wd P w K) ps_check_number) (He.ga K "check_number") fd_check_number := ⟨ok_check_number F_check_number B c_MODULUS, F_check_number.bindsN fun _ _ _ _ _ _ us hl => match us, hl with | [_], _ => rfl, He.glo_ok X G (c.fact 13 (f := .glo "check_number") rfl), F_check_number.kp⟩
  have c_record_text : Cal P w K mg base CX0 2 "record_text" ["kind", "text"] (spOf (wd P w K) ps_record_text) (He.ga K "record_text") fd_record_text := ⟨ok_record_text F_record_text B c_check_number, F_record_text.bindsN fun _ _ _ _ _ _ us hl => match us, hl with | [_, _], _ => rfl, He.glo_ok X G (c.fact 14 (f := .glo "record_text") rfl), F_record_text.kp⟩
  have c_is_number : Cal P w K mg base CX0 1 "is_number" ["text"] (spOf (wd P w K) ps_is_number) (He.ga K "is_number") fd_is_number := ⟨ok_is_number F_is_number B c_DIGITS, F_is_number.bindsN fun _ _ _ _ _ _ us hl => match us, hl with | [_], _ => rfl, He.glo_ok X G (c.fact 15 (f := .glo "is_number") rfl), F_is_number.kp⟩
  have c_read_record : Cal P w K mg base CX0 2 "read_record" ["data", "at"] (spOf (wd P w K) ps_read_record) (He.ga K "read_record") fd_read_record := ⟨ok_read_record F_read_record B c_KINDS c_is_number c_check_number, F_read_record.bindsN fun _ _ _ _ _ _ us hl => match us, hl with | [_, _], _ => rfl, He.glo_ok X G (c.fact 16 (f := .glo "read_record") rfl), F_read_record.kp⟩
  have c_read_records : Cal P w K mg base CX0 3 "read_records" ["data"] (spOf (wd P w K) ps_read_records) (He.ga K "read_records") fd_read_records := ⟨ok_read_records F_read_records B c_read_record, F_read_records.bindsN fun _ _ _ _ _ _ us hl => match us, hl with | [_], _ => rfl, He.glo_ok X G (c.fact 17 (f := .glo "read_records") rfl), F_read_records.kp⟩
  have c_law_read : Cal P w K mg base CX0 2 "_law_read" ["_law_data"] (spOf (wd P w K) ps_law_read) (He.ga K "_law_read") fd_law_read := ⟨ok_law_read F_law_read B c_law_record, F_law_read.bindsN fun _ _ _ _ _ _ us hl => match us, hl with | [_], _ => rfl, He.glo_ok X G (c.fact 18 (f := .glo "_law_read") rfl), F_law_read.kp⟩
  exact ok_law F_law B c_law_state c_law_draw c_law_pick c_law_record c_record_text c_read_records c_law_read c_check_number
end Lk70
open PySem PySem.W PySem.Calls PyProof.Rows
theorem PySem.Challenge.cw_quiltward_k70_records_on_tapes_holds : PySem.Challenge.rw_quiltward_k70_records_on_tapes.Holds := by
  w_on; o_law
  refine HandSHeadRun.head_any (r := OpenLaw.row PySem.Challenge.rw_quiltward_k70_records_on_tapes) (q := view (OpenLaw.row PySem.Challenge.rw_quiltward_k70_records_on_tapes).prog [15]) (H := Lk70.hk) (ob := Lk70.ob) (M := 4000) (loose := Lk70.loose) (d := HandSHeadRun.topDef (OpenLaw.row PySem.Challenge.rw_quiltward_k70_records_on_tapes).prog 15) (kwd := []) Lk70.ob_eq
    (by kernel_rfl) (fun s => by kernel_rfl) Lk70.run (by kernel_rfl) (by kernel_rfl) (by kernel_rfl) (by rfl) (by first | assumption | decide +kernel) (by decide +kernel) ⟨rfl, rfl, rfl, rfl, rfl, by decide +kernel⟩ ?hw ?hc
  case hw => w_witness2
  case hc =>
    refine L2.walk_ofE (l := PySem.Challenge.rw_quiltward_k70_records_on_tapes) (n := 63) (k := 4) (x := "_law_script") (CX := L2.CX0) rfl (by decide) (by kernel_rfl) ⟨rfl, by decide, by decide⟩ ?F (fun _ _ _ _ z => z)
    intro w mg fa h Y G hmg0
    obtain ⟨K, KX, c, ex⟩ := Y
    have hmg : mg ("law" : PySem.Str) = some (.ref fa) := by
      have e : (HandSHeadRun.topDef (OpenLaw.row PySem.Challenge.rw_quiltward_k70_records_on_tapes).prog 15).name = ("law" : PySem.Str) := by kernel_rfl
      rw [← e]
      exact hmg0
    obtain ⟨fd, hb, hF⟩ := Lk70.facts (P := (PySem.Challenge.rw_quiltward_k70_records_on_tapes).prog) (w := w) KX G hmg c ex
    exact ⟨K, fd, Pu.spOf (Pu.wd (PySem.Challenge.rw_quiltward_k70_records_on_tapes).prog w K) Pu.psLaw, KX, hb, fun H a ns hl _ hS => Pu.law_sp hl hS, hF⟩


