import PyProof.Rows.All
import Wide.All
import OpenK.AllK
import Wide.FinOn
import HandS.ForMost
import HandS.ForExc
import HandS.ExcInit
import KE.KDictKeyed
import KE.KeyNested
import HandS.TupAny
import HandS.Deep
import HandS.ExcField
import HandS.ExcIs
import HandS.IsInst
import HandS.Defaults
import HandS.Head0
import HandS.Head1
import HandS.Head2
import HandS.HeadEnd
import HandS.HeadHook1
import HandS.HeadHook2
import KE.KExcIs
import HandS.Codes
import KE.DataCmp
import PyProof.ReprRoads
import PyProof.Rows.NestShow
import HandS.Iter
import HandS.MapJoin
import KE.SortData
import HandS.RaiseMore
import PyProof.ListStr
import HandS.Replace
import HandS.TupLen
import KE.KDictSum
import KE.DataMinMax
import PyProof.P3Eq
import HandS.DictComp
import HandS.More
import HandS.Style
import PySem.Challenge.RW_quiltward_k15_scripts
set_option Elab.async false
set_option linter.all false
set_option maxRecDepth 100000
namespace Pu
open PySem PySem.Spec PyProof.Rows L2

/-! ### plain data -/
inductive D where
  | non | bl (b : Bool) | int (i : Int) | str (x : Str)
  | tup (xs : List D) | lst (xs : List D) | dct (ks vs : List D)
  | obj (C : Addr) (ns : List Str) (vs : List D)
  | hdl (n : Nat) (d : D)
  | cls (a : Addr)
  | ty (n : String)
  | exc (a dd : Addr) (f : Str) (d : D)
  | scr (ns : List Int)

mutual
def D.beq : D → D → Bool
  | .non, .non => true
  | .bl a, .bl b => a == b
  | .int a, .int b => a == b
  | .str a, .str b => decide (a = b)
  | .tup a, .tup b => D.beqs a b
  | .lst a, .lst b => D.beqs a b
  | .dct a c, .dct b d => D.beqs a b && D.beqs c d
  | .obj a n x, .obj b m y => a == b && (decide (n = m) && D.beqs x y)
  | .hdl a c, .hdl b d => a == b && D.beq c d
  | .cls a, .cls b => a == b
  | .ty a, .ty b => a == b
  | .scr a, .scr b => a == b
  | .exc a c e x, .exc b d f y => a == b && (c == d && (decide (e = f) && D.beq x y))
  | _, _ => false
def D.beqs : List D → List D → Bool
  | [], [] => true
  | x :: xs, y :: ys => D.beq x y && D.beqs xs ys
  | _, _ => false
end
mutual
theorem D.beq_iff : ∀ a b : D, D.beq a b = true ↔ a = b
  | .non, b => by cases b <;> simp [D.beq]
  | .bl _, b => by cases b <;> simp [D.beq]
  | .int _, b => by cases b <;> simp [D.beq]
  | .str _, b => by cases b <;> simp [D.beq]
  | .tup xs, b => by cases b <;> simp [D.beq, D.beqs_iff xs]
  | .lst xs, b => by cases b <;> simp [D.beq, D.beqs_iff xs]
  | .dct xs ys, b => by cases b <;> simp [D.beq, D.beqs_iff xs, D.beqs_iff ys]
  | .obj _ _ xs, b => by cases b <;> simp [D.beq, D.beqs_iff xs]
  | .hdl _ d, b => by cases b <;> simp [D.beq, D.beq_iff d]
  | .cls _, b => by cases b <;> simp [D.beq]
  | .ty _, b => by cases b <;> simp [D.beq]
  | .scr _, b => by cases b <;> simp [D.beq]
  | .exc _ _ _ d, b => by cases b <;> simp [D.beq, D.beq_iff d]
theorem D.beqs_iff : ∀ a b : List D, D.beqs a b = true ↔ a = b
  | [], b => by cases b <;> simp [D.beqs]
  | x :: xs, b => by cases b <;> simp [D.beqs, D.beq_iff x, D.beqs_iff xs]
end
instance : DecidableEq D := fun a b => decidable_of_iff _ (D.beq_iff a b)

/-! ### heaps in parts -/
def Dis (A B : Hp) : Prop := ∀ b, A b = none ∨ B b = none
def un (A B : Hp) : Hp := fun b => match A b with
  | some o => some o
  | none => B b
def emp : Hp := fun _ => none
def one (a : Addr) (o : HO) : Hp := fun b => if b = a then some o else none
theorem one_same {a : Addr} {o : HO} : one a o a = some o := if_pos rfl
theorem one_ne {a b : Addr} {o : HO} (h : b ≠ a) : one a o b = none := if_neg h
theorem Dis.symm {A B : Hp} (h : Dis A B) : Dis B A := fun b => (h b).symm
theorem Dis.emp {A : Hp} : Dis A emp := fun _ => .inr rfl
theorem Dis.sub {A B A' : Hp} (h : Dis A B) (s : ∀ b, A b = none → A' b = none) : Dis A' B := fun b => (h b).imp (s b) id
theorem un_l {A B : Hp} : Same A (un A B) := fun b o e => by unfold un; rw [e]
theorem un_r {A B : Hp} (d : Dis A B) : Same B (un A B) := fun b o e => by
  unfold un
  rcases d b with h | h
  · rw [h]; exact e
  · rw [h] at e; cases e
theorem un_cases {A B : Hp} {b : Addr} {o : HO} (e : un A B b = some o) : A b = some o ∨ (A b = none ∧ B b = some o) := by
  unfold un at e
  cases h : A b with
  | some u => rw [h] at e; exact .inl e
  | none => rw [h] at e; exact .inr ⟨rfl, e⟩
theorem un_none {A B : Hp} {b : Addr} (h : un A B b = none) : A b = none ∧ B b = none := by
  unfold un at h
  cases e : A b with
  | some u => rw [e] at h; cases h
  | none => rw [e] at h; exact ⟨rfl, h⟩
theorem none_un {A B : Hp} {b : Addr} (h1 : A b = none) (h2 : B b = none) : un A B b = none := by
  unfold un; rw [h1]; exact h2
theorem un_sub {A B H : Hp} (h1 : Same A H) (h2 : Same B H) : Same (un A B) H := fun b o e => by
  rcases un_cases e with h | ⟨_, h⟩
  · exact h1 b o h
  · exact h2 b o h
theorem Dis.un {A B C : Hp} (h1 : Dis A C) (h2 : Dis B C) : Dis (un A B) C := fun b => by
  rcases h1 b with h | h
  · rcases h2 b with h' | h'
    · exact .inl (none_un h h')
    · exact .inr h'
  · exact .inr h
theorem ne_none_of {A : Hp} {b : Addr} {o : HO} (h : A b = some o) : A b ≠ none := by rw [h]; exact fun z => nomatch z

/-! ### what stands in the part of the heap that never changes any more -/
structure Wd where
  P : Program
  w : World
  K : PySem.W.Frag
  rep : Nat → Hp → Hp → V → D → Prop
  mono : ∀ n G G' F v d, Same G G' → rep n G F v d → rep n G' F v d
  res : ∀ n G F F' v d, (∀ b o, F b = some o → Mut (some o) → F' b = some o) → rep n G F v d → rep n G F' v d

/-! ### keys -/
mutual
def D.nk : D → NestedKey
  | .non => .none
  | .bl b => .num (if b = true then 1 else 0)
  | .int i => .num i
  | .str x => .text x
  | .tup xs => .tup (D.nks xs)
  | _ => .none
def D.nks : List D → List NestedKey
  | [] => []
  | d :: ds => D.nk d :: D.nks ds
end
mutual
/-- a key of at most this depth, without bools -/
def D.kd : Nat → D → Bool
  | _, .non => true
  | _, .int _ => true
  | _, .str _ => true
  | n + 1, .tup xs => D.kds n xs
  | _, _ => false
def D.kds : Nat → List D → Bool
  | _, [] => true
  | n, d :: ds => D.kd n d && D.kds n ds
end
/-- a tuple that is a key -/
def D.tk : D → Bool
  | .tup xs => D.kds 7 xs
  | _ => false
def keyD : Key → D
  | .inl i => .int i
  | .inr x => .str x
/-- a thing that is exactly this object -/
def ob (a : Addr) (od : Obj) : HO := .ext fun h => h.get? a = some od ∧ (a == sysModules) = false
/-- od is a dict: its keys as data, its keys, its values -/
inductive DkO (P : Program) (w : World) (od : Obj) : List D → List V → List V → Prop
  | val {kvs : List (Key × V)} {es : Array DictEntry} {ep : Nat} {vs : List (Key × Value)} : od.ExactDict → od.data = .dict es ep → KeysOf (mixKind P w) es → Pairs (mixKind P w) es.toList vs → (vs.map (·.1)).Nodup → KV kvs vs → kvs.length ≤ sizeLine →
      DkO P w od (kvs.map fun p => keyD p.1) (kvs.map fun p => kV p.1) (kvs.map (·.2))
  | tup {xs : List (NestedKey × Addr × V)} {ks : List D} {us : List (NestedKey × Addr × Value)} {es : Array DictEntry} {ep : Nat} : od.ExactDict → od.data = .dict es ep → es.toList = us.map (entryOfKey (nestedKind P w)) → (us.map (·.1)).Nodup →
      Paired (fun p q => p.1 = q.1 ∧ p.2.1 = q.2.1 ∧ RelV p.2.2 q.2.2) xs us → xs.length ≤ sizeLine → xs.map (·.1) = D.nks ks → (∀ k ∈ ks, D.tk k = true) → DkO P w od ks (xs.map fun x => V.ref x.2.1) (xs.map (·.2.2))

mutual
inductive FR (W : Wd) (G : Hp) : V → D → Prop
  | non : FR W G .non .non
  | bl (b : Bool) : FR W G (.bl b) (.bl b)
  | int (i : Int) : FR W G (.int i) (.int i)
  | str (x : Str) : FR W G (.str x) (.str x)
  | cls (a : Addr) : FR W G (.ref a) (.cls a)
  | ty (n : String) : FR W G (.ty n) (.ty n)
  | scr {a : Addr} {ns : List Int} : SqL W.K G a (ns.map V.int) → FR W G (.ref a) (.scr ns)
  | exc {a dd : Addr} {f : Str} {v : V} {d : D} : G dd = some (.xd [(f, v)]) → FR W G v d → FR W G (.ref a) (.exc a dd f d)
  | tup {a : Addr} {vs : List V} {ds : List D} : SqT W.K G a vs → FRs W G vs ds → FR W G (.ref a) (.tup ds)
  | lst {a : Addr} {vs : List V} {ds : List D} : G a = some (.lst vs) → FRs W G vs ds → FR W G (.ref a) (.lst ds)
  | dct {a : Addr} {od : Obj} {ks ds : List D} {kv vv : List V} : G a = some (ob a od) → DkO W.P W.w od ks kv vv → FRs W G kv ks → FRs W G vv ds → FR W G (.ref a) (.dct ks ds)
  | obj {a C dx : Addr} {fs : List (Str × V)} {ns : List Str} {vs : List V} {ds : List D} : G a = some (.ins C dx fs) → G dx = some (.own a) → ns = fs.map (·.1) → vs = fs.map (·.2) → FRs W G vs ds → FR W G (.ref a) (.obj C ns ds)
inductive FRs (W : Wd) (G : Hp) : List V → List D → Prop
  | nil : FRs W G [] []
  | cons {v : V} {vs : List V} {d : D} {ds : List D} : FR W G v d → FRs W G vs ds → FRs W G (v :: vs) (d :: ds)
end
theorem rd_mono {G G' : Hp} {a : Addr} {u : HO} (e : Same G G') (h : Rd G a u) : Rd G' a u := by
  rcases h with h | ⟨o, h⟩
  · exact .inl (e a _ h)
  · exact .inr ⟨o, e a _ h⟩
theorem sqt_mono {K : PySem.W.Frag} {H H' : Hp} {a : Addr} {xs : List V} (e : Same H H') (h : SqT K H a xs) : SqT K H' a xs := by
  rcases h with h | h
  · exact .inl (rd_mono e h)
  · exact .inr h
mutual
theorem FR.mono {W : Wd} {G G' : Hp} (e : Same G G') : ∀ {v : V} {d : D}, FR W G v d → FR W G' v d
  | _, _, .non => .non
  | _, _, .bl b => .bl b
  | _, _, .int i => .int i
  | _, _, .str x => .str x
  | _, _, .cls a => .cls a
  | _, _, .ty a => .ty a
  | _, _, .scr h => .scr (e.seq h)
  | _, _, .exc h t => .exc (e _ _ h) (FR.mono e t)
  | _, _, .tup h t => .tup (sqt_mono e h) (FRs.mono e t)
  | _, _, .lst h t => .lst (e _ _ h) (FRs.mono e t)
  | _, _, .dct h k t u => .dct (e _ _ h) k (FRs.mono e t) (FRs.mono e u)
  | _, _, .obj h h2 e1 e2 t => .obj (e _ _ h) (e _ _ h2) e1 e2 (FRs.mono e t)
theorem FRs.mono {W : Wd} {G G' : Hp} (e : Same G G') : ∀ {vs : List V} {ds : List D}, FRs W G vs ds → FRs W G' vs ds
  | _, _, .nil => .nil
  | _, _, .cons h t => .cons (FR.mono e h) (FRs.mono e t)
end
theorem FRs.length {W : Wd} {G : Hp} : ∀ {vs : List V} {ds : List D}, FRs W G vs ds → vs.length = ds.length
  | _, _, .nil => rfl
  | _, _, .cons _ t => by simp [FRs.length t]
theorem FRs.get {W : Wd} {G : Hp} : ∀ {vs : List V} {ds : List D} {i : Nat} {d : D}, FRs W G vs ds → ds[i]? = some d → ∃ v, vs[i]? = some v ∧ FR W G v d
  | _, _, _, _, .nil, e => by simp at e
  | _, _, 0, _, .cons h _, e => by
    simp at e
    subst e
    exact ⟨_, rfl, h⟩
  | _, _, i + 1, d, .cons _ t, e => by
    obtain ⟨v, h1, h2⟩ := FRs.get (i := i) (d := d) t (by simpa using e)
    exact ⟨v, by simpa using h1, h2⟩
theorem FRs.getV {W : Wd} {G : Hp} : ∀ {vs : List V} {ds : List D} {i : Nat} {v : V}, FRs W G vs ds → vs[i]? = some v → ∃ d, ds[i]? = some d ∧ FR W G v d
  | _, _, _, _, .nil, e => by simp at e
  | _, _, 0, _, .cons h _, e => by
    simp at e
    subst e
    exact ⟨_, rfl, h⟩
  | _, _, i + 1, d, .cons _ t, e => by
    obtain ⟨v, h1, h2⟩ := FRs.getV (i := i) t (by simpa using e)
    exact ⟨v, by simpa using h1, h2⟩
theorem FRs.append {W : Wd} {G : Hp} : ∀ {vs us : List V} {ds es : List D}, FRs W G vs ds → FRs W G us es → FRs W G (vs ++ us) (ds ++ es)
  | _, _, _, _, .nil, h => h
  | _, _, _, _, .cons h t, q => .cons h (FRs.append t q)
theorem FRs.take {W : Wd} {G : Hp} : ∀ {vs : List V} {ds : List D} (n : Nat), FRs W G vs ds → FRs W G (vs.take n) (ds.take n)
  | _, _, 0, _ => .nil
  | _, _, _ + 1, .nil => .nil
  | _, _, n + 1, .cons h t => .cons h (FRs.take n t)
theorem FRs.drop {W : Wd} {G : Hp} : ∀ {vs : List V} {ds : List D} (n : Nat), FRs W G vs ds → FRs W G (vs.drop n) (ds.drop n)
  | _, _, 0, h => h
  | _, _, _ + 1, .nil => .nil
  | _, _, n + 1, .cons h t => FRs.drop n t
theorem FRs.set {W : Wd} {G : Hp} {v : V} {d : D} (h : FR W G v d) : ∀ {vs : List V} {ds : List D} (n : Nat), FRs W G vs ds → FRs W G (vs.set n v) (ds.set n d)
  | _, _, _, .nil => .nil
  | _, _, 0, .cons _ t => .cons h t
  | _, _, n + 1, .cons q t => .cons q (FRs.set h n t)
theorem FRs.eraseIdx {W : Wd} {G : Hp} : ∀ {vs : List V} {ds : List D} (n : Nat), FRs W G vs ds → FRs W G (vs.eraseIdx n) (ds.eraseIdx n)
  | _, _, _, .nil => .nil
  | _, _, 0, .cons _ t => t
  | _, _, n + 1, .cons q t => .cons q (FRs.eraseIdx n t)
theorem FRs.snoc {W : Wd} {G : Hp} {vs : List V} {ds : List D} {v : V} {d : D} (h : FRs W G vs ds) (q : FR W G v d) : FRs W G (vs ++ [v]) (ds ++ [d]) := h.append (.cons q .nil)

/-! ### slots -/
/-- a thing of one's own with things of one's own within -/
inductive T where
  | leaf (d : D) | lst (ts : List T) | dct (l : Option Obj) (ks : List D) (ts : List T) | obj (C : Addr) (ns : List Str) (ts : List T)
mutual
def T.er : T → D
  | .leaf d => d
  | .lst ts => .lst (T.ers ts)
  | .dct _ ks ts => .dct ks (T.ers ts)
  | .obj C ns ts => .obj C ns (T.ers ts)
def T.ers : List T → List D
  | [] => []
  | t :: ts => T.er t :: T.ers ts
end
mutual
inductive TR (W : Wd) (G : Hp) : Hp → V → T → Prop
  | leaf {v : V} {d : D} : FR W G v d → TR W G emp v (.leaf d)
  | lst {F : Hp} {a : Addr} {vs : List V} {ts : List T} : F a = some (.lst vs) → TRs W G (del F a) vs ts → TR W G F (.ref a) (.lst ts)
  | dct {F : Hp} {a : Addr} {od : Obj} {l : Option Obj} {ks : List D} {kv vv : List V} {ts : List T} : F a = some (ob a od) → DkO W.P W.w od ks kv vv → FRs W G kv ks → TRs W G (del F a) vv ts → (∀ o ∈ l, o = od) → TR W G F (.ref a) (.dct l ks ts)
  | obj {F : Hp} {a C dx : Addr} {fs : List (Str × V)} {ns : List Str} {vs : List V} {ts : List T} : F a = some (.ins C dx fs) → F dx = some (.own a) → ns = fs.map (·.1) → vs = fs.map (·.2) → TRs W G (del (del F a) dx) vs ts → TR W G F (.ref a) (.obj C ns ts)
inductive TRs (W : Wd) (G : Hp) : Hp → List V → List T → Prop
  | nil : TRs W G emp [] []
  | cons {F1 F2 : Hp} {v : V} {vs : List V} {t : T} {ts : List T} : TR W G F1 v t → TRs W G F2 vs ts → Dis F1 F2 → TRs W G (un F1 F2) (v :: vs) (t :: ts)
end
mutual
theorem TR.mono {W : Wd} {G G' : Hp} (e : Same G G') : ∀ {F : Hp} {v : V} {t : T}, TR W G F v t → TR W G' F v t
  | _, _, _, .leaf h => .leaf (h.mono e)
  | _, _, _, .lst h t => .lst h (TRs.mono e t)
  | _, _, _, .dct h k t u l => .dct h k (t.mono e) (TRs.mono e u) l
  | _, _, _, .obj h h2 e1 e2 t => .obj h h2 e1 e2 (TRs.mono e t)
theorem TRs.mono {W : Wd} {G G' : Hp} (e : Same G G') : ∀ {F : Hp} {vs : List V} {ts : List T}, TRs W G F vs ts → TRs W G' F vs ts
  | _, _, _, .nil => .nil
  | _, _, _, .cons h t d => .cons (TR.mono e h) (TRs.mono e t) d
end
theorem del_sub {F : Hp} {a : Addr} : Same (del F a) F := fun b o e => by
  by_cases h : b = a
  · subst h; rw [del_same] at e; cases e
  · rw [del_ne h] at e; exact e
theorem un_mono {A B C D : Hp} (h1 : Same A C) (h2 : Same B D) (d : Dis C D) : Same (un A B) (un C D) := un_sub (fun b o e => un_l b o (h1 b o e)) fun b o e => un_r d b o (h2 b o e)
theorem Dis.subR {A B C : Hp} (d : Dis A B) (s : Same C B) : Dis A C := fun b => by
  rcases d b with h | h
  · exact .inl h
  · cases e : C b with
    | none => exact .inr rfl
    | some o => rw [s b o e] at h; cases h
theorem Dis.subL {A B C : Hp} (d : Dis A B) (s : Same C A) : Dis C B := (d.symm.subR s).symm
mutual
theorem TR.freeze {W : Wd} {G : Hp} : ∀ {F : Hp} {v : V} {t : T}, TR W G F v t → Dis G F → FR W (un G F) v t.er
  | _, _, _, .leaf h, _ => h.mono un_l
  | _, _, _, .lst h t, d => by
    simp only [T.er]
    exact .lst (un_r d _ _ h) ((TRs.freeze t (d.subR del_sub)).mono (un_mono (Same.refl _) del_sub d))
  | _, _, _, .dct h k t u _, d => by
    simp only [T.er]
    exact .dct (un_r d _ _ h) k (t.mono un_l) ((TRs.freeze u (d.subR del_sub)).mono (un_mono (Same.refl _) del_sub d))
  | _, _, _, .obj h h2 e1 e2 t, d => by
    simp only [T.er]
    exact .obj (un_r d _ _ h) (un_r d _ _ h2) e1 e2 ((TRs.freeze t (d.subR (del_sub.trans del_sub))).mono (un_mono (Same.refl _) (del_sub.trans del_sub) d))
theorem TRs.freeze {W : Wd} {G : Hp} : ∀ {F : Hp} {vs : List V} {ts : List T}, TRs W G F vs ts → Dis G F → FRs W (un G F) vs (T.ers ts)
  | _, _, _, .nil, _ => by simp only [T.ers]; exact .nil
  | _, _, _, .cons h t d2, d => by
    simp only [T.ers]
    exact .cons ((TR.freeze h (d.subR un_l)).mono (un_mono (Same.refl _) un_l d)) ((TRs.freeze t (d.subR (un_r d2))).mono (un_mono (Same.refl _) (un_r d2) d))
end
inductive Slot where
  | nil | frz (d : D) | own (d : D) | par (d : D) | tre (t : T) | ptr (t : T)
abbrev Env := List Slot
/-- an object that nobody else knows -/
inductive OR (W : Wd) (G F : Hp) : V → D → Prop
  | lst {a : Addr} {vs : List V} {ds : List D} : F a = some (.lst vs) → FRs W G vs ds → OR W G F (.ref a) (.lst ds)
  | hdl {n : Nat} {v : V} {d : D} : W.rep n G F v d → OR W G F v (.hdl n d)
theorem OR.mono {W : Wd} {G G' F : Hp} (e : Same G G') : ∀ {v : V} {d : D}, OR W G F v d → OR W G' F v d
  | _, _, .lst h t => .lst h (t.mono e)
  | _, _, .hdl h => .hdl (W.mono _ _ _ _ _ _ e h)
/-- what may be told to all -/
def D.sol : D → Bool
  | .hdl _ _ => false
  | _ => true
theorem OR.freeze {W : Wd} {G F : Hp} {v : V} {d : D} (h : OR W G F v d) (hs : d.sol = true) (dj : Dis G F) : FR W (un G F) v d := by
  cases h with
  | lst h t => exact .lst (un_r dj _ _ h) (t.mono un_l)
  | hdl _ => cases hs

def SlR (W : Wd) (G : Hp) (x0 x : Option (Option V)) (F : Hp) : Slot → Prop
  | .nil => True
  | .frz d => ∃ v, x = some (some v) ∧ FR W G v d
  | .own d => ∃ v, x = some (some v) ∧ OR W G F v d
  | .par d => ∃ v, x = some (some v) ∧ x0 = some (some v) ∧ OR W G F v d
  | .tre t => ∃ v, x = some (some v) ∧ TR W G F v t
  | .ptr t => ∃ v, x = some (some v) ∧ x0 = some (some v) ∧ TR W G F v t
theorem SlR.mono {W : Wd} {G G' : Hp} {x0 x : Option (Option V)} {F : Hp} (e : Same G G') : ∀ {s : Slot}, SlR W G x0 x F s → SlR W G' x0 x F s
  | .nil, h => h
  | .frz _, ⟨v, a, b⟩ => ⟨v, a, b.mono e⟩
  | .own _, ⟨v, a, b⟩ => ⟨v, a, b.mono e⟩
  | .par _, ⟨v, a, c, b⟩ => ⟨v, a, c, b.mono e⟩
  | .tre _, ⟨v, a, b⟩ => ⟨v, a, b.mono e⟩
  | .ptr _, ⟨v, a, c, b⟩ => ⟨v, a, c, b.mono e⟩

/-- σ, H are what env tells: G never changes, φ i is slot i's own part, Z is all that may change -/
structure ER (W : Wd) (Z : Addr → Prop) (σ0 : L2.St) (H G : Hp) (σ : L2.St) (env : Env) (φ : Nat → Hp) : Prop where
  len : σ.length = env.length ∧ σ.length = σ0.length
  sl : ∀ i s, env[i]? = some s → SlR W G (σ0[i]?) (σ[i]?) (φ i) s
  dis : ∀ i j, i ≠ j → Dis (φ i) (φ j)
  dg : ∀ i, Dis G (φ i)
  sub : ∀ i, Same (φ i) H
  gh : Same G H
  zn : ∀ b, H b = none → Z b
  zs : ∀ i b, φ i b ≠ none → Z b
structure Ext (Z : Addr → Prop) (G H G' H' : Hp) : Prop where
  g : Same G G'
  gz : ∀ b o, G' b = some o → G b = some o ∨ Z b
  hz : ∀ b o, H b = some o → ¬ Z b → H' b = some o
theorem Ext.refl {Z : Addr → Prop} {G H : Hp} : Ext Z G H G H := ⟨Same.refl _, fun _ _ e => .inl e, fun _ _ e _ => e⟩
theorem Ext.trans {Z : Addr → Prop} {G H G1 H1 G2 H2 : Hp} (a : Ext Z G H G1 H1) (b : Ext Z G1 H1 G2 H2) : Ext Z G H G2 H2 where
  g := a.g.trans b.g
  gz := fun x o e => (b.gz x o e).elim (a.gz x o) .inr
  hz := fun x o e n => b.hz x o (a.hz x o e n) n
theorem Ext.weak {Z Z' : Addr → Prop} {G H G' H' : Hp} (h : ∀ b, Z b → Z' b) (a : Ext Z G H G' H') : Ext Z' G H G' H' :=
  ⟨a.g, fun b o e => (a.gz b o e).imp id (h b), fun b o e n => a.hz b o e fun z => n (h b z)⟩
/-- an exception: its class, its attributes -/
abbrev XP := Addr → List (Str × D) → Prop
def XOk (W : Wd) (Z : Addr → Prop) (G H : Hp) (E : XK) (Xc : XP) : Prop :=
  ∀ C f d v dx H' G', Ext Z G H G' H' → Same G' H' → Z dx → H' dx = some (.xd [(f, v)]) → FR W G' v d → Xc C [(f, d)] → E (.ref C) (some dx) H'
end Pu

set_option Elab.async false
set_option linter.all false
set_option maxRecDepth 100000
namespace Pu
open PySem PySem.Spec L2

abbrev PTE := Env → (D → Env → Prop) → Prop
abbrev PTT := Env → (Bool → Env → Prop) → Prop
abbrev PTA := Env → (List D → Env → Prop) → Prop
abbrev PQE := Env → (D → Prop) → Prop
abbrev PQT := Env → (Bool → Prop) → Prop
abbrev PQA := Env → (List D → Prop) → Prop
abbrev PTG := D → Env → (Env → Prop) → Prop
abbrev PTGs := List D → Env → (Env → Prop) → Prop
abbrev PTO := Env → (Slot → Env → Prop) → Prop
structure PEnds where
  nx : Env → Prop
  rt : Slot → Env → Prop
  bk : Env → Prop := fun _ => False
  ct : Env → Prop := fun _ => False
abbrev PTS := PEnds → Env → Prop

/-! ### only new things -/
structure Grow (G H G' H' : Hp) : Prop where
  g : Same G G'
  h : Same H H'
  n : ∀ b o, G' b = some o → G b = some o ∨ H b = none
  gh : Same G' H'
theorem Grow.refl {G H : Hp} (e : Same G H) : Grow G H G H := ⟨Same.refl _, Same.refl _, fun _ _ h => .inl h, e⟩
theorem Grow.trans {G H G1 H1 G2 H2 : Hp} (a : Grow G H G1 H1) (b : Grow G1 H1 G2 H2) : Grow G H G2 H2 :=
  ⟨a.g.trans b.g, a.h.trans b.h, fun x o e => by
    rcases b.n x o e with h | h
    · exact a.n x o h
    · exact .inr (a.h.free h), b.gh⟩
theorem same_upd {H : Hp} {p : Addr} {o : HO} (h : H p = none) : Same H (upd H p o) := fun b x e => by
  rw [upd_ne (ne_of_none e h)]
  exact e
theorem Grow.new {G H : Hp} {p : Addr} {o : HO} (e : Same G H) (h : H p = none) : Grow G H (upd G p o) (upd H p o) := by
  have hg : G p = none := e.free h
  refine ⟨same_upd hg, same_upd h, fun b u q => ?_, fun b u q => ?_⟩
  · by_cases hb : b = p
    · subst hb; exact .inr h
    · rw [upd_ne hb] at q; exact .inl q
  · by_cases hb : b = p
    · subst hb
      rw [upd_same] at q ⊢
      exact q
    · rw [upd_ne hb] at q ⊢
      exact e b u q

/-! ### a look at all that is known, nothing changes -/
def SlV (W : Wd) (Γ : Hp) (x : Option (Option V)) : Slot → Prop
  | .nil => True
  | .frz d => ∃ v, x = some (some v) ∧ FR W Γ v d
  | .own d => d.sol = true → ∃ v, x = some (some v) ∧ FR W Γ v d
  | .par d => d.sol = true → ∃ v, x = some (some v) ∧ FR W Γ v d
  | .tre t => ∃ v, x = some (some v) ∧ FR W Γ v t.er
  | .ptr t => ∃ v, x = some (some v) ∧ FR W Γ v t.er
theorem SlV.mono {W : Wd} {G G' : Hp} {x : Option (Option V)} (e : Same G G') : ∀ {s : Slot}, SlV W G x s → SlV W G' x s
  | .nil, h => h
  | .frz _, ⟨v, a, b⟩ => ⟨v, a, b.mono e⟩
  | .own _, h => fun hs => let ⟨v, a, b⟩ := h hs; ⟨v, a, b.mono e⟩
  | .par _, h => fun hs => let ⟨v, a, b⟩ := h hs; ⟨v, a, b.mono e⟩
  | .tre _, ⟨v, a, b⟩ => ⟨v, a, b.mono e⟩
  | .ptr _, ⟨v, a, b⟩ => ⟨v, a, b.mono e⟩
structure Vw (W : Wd) (Γ H : Hp) (σ : L2.St) (env : Env) : Prop where
  len : σ.length = env.length
  gh : Same Γ H
  sl : ∀ (i : Nat) (s : Slot), env[i]? = some s → SlV W Γ (σ[i]?) s
theorem Vw.grow {W : Wd} {Γ H Γ' H' : Hp} {σ : L2.St} {env : Env} (v : Vw W Γ H σ env) (g : Grow Γ H Γ' H') : Vw W Γ' H' σ env :=
  ⟨v.len, g.gh, fun i s e => (v.sl i s e).mono g.g⟩
/-- exceptions, as a look sees them -/
def XV (W : Wd) (Γ H : Hp) (E : XK) (Xc : XP) : Prop :=
  ∀ C f d v dx Γ' H', Grow Γ H Γ' H' → H dx = none → H' dx = some (.xd [(f, v)]) → FR W Γ' v d → Xc C [(f, d)] → E (.ref C) (some dx) H'
theorem XV.grow {W : Wd} {Γ H Γ' H' : Hp} {E : XK} {Xc : XP} (x : XV W Γ H E Xc) (g : Grow Γ H Γ' H') : XV W Γ' H' E Xc :=
  fun C f d v dx Γ2 H2 g2 h0 h1 h3 h4 => x C f d v dx Γ2 H2 (g.trans g2) (g.h.free h0) h1 h3 h4

def PurQ (W : Wd) (E : XK) (Xc : XP) (te : TE) (pq : PQE) : Prop :=
  ∀ Γ H σ env (Q : VK) (Q' : D → Prop), Vw W Γ H σ env → XV W Γ H E Xc → (∀ v d Γ' H', Grow Γ H Γ' H' → FR W Γ' v d → Q' d → Q v H') → pq env Q' → te σ H Q
def PurQT (W : Wd) (E : XK) (Xc : XP) (tt : TT) (pq : PQT) : Prop :=
  ∀ Γ H σ env (Q : Bool → Hp → Prop) (Q' : Bool → Prop), Vw W Γ H σ env → XV W Γ H E Xc → (∀ b Γ' H', Grow Γ H Γ' H' → Q' b → Q b H') → pq env Q' → tt σ H Q
def PurQA (W : Wd) (E : XK) (Xc : XP) (ta : TA) (pq : PQA) : Prop :=
  ∀ Γ H σ env (Q : List V → Hp → Prop) (Q' : List D → Prop), Vw W Γ H σ env → XV W Γ H E Xc → (∀ vs ds Γ' H', Grow Γ H Γ' H' → FRs W Γ' vs ds → Q' ds → Q vs H') → pq env Q' → ta σ H Q
/-- by values -/
def PurR2 (W : Wd) (r : R2) (p : D → D → (D → Prop) → Prop) : Prop :=
  ∀ G H x y dx dy (Q : VK) (Q' : D → Prop), Same G H → FR W G x dx → FR W G y dy → (∀ v d G' H', Grow G H G' H' → FR W G' v d → Q' d → Q v H') → p dx dy Q' → r x y H Q
def PurR1 (W : Wd) (r : V → Hp → VK → Prop) (p : D → (D → Prop) → Prop) : Prop :=
  ∀ G H x dx (Q : VK) (Q' : D → Prop), Same G H → FR W G x dx → (∀ v d G' H', Grow G H G' H' → FR W G' v d → Q' d → Q v H') → p dx Q' → r x H Q
def PurC (W : Wd) (r : List V → Hp → VK → Prop) (p : List D → (D → Prop) → Prop) : Prop :=
  ∀ G H xs ds (Q : VK) (Q' : D → Prop), Same G H → FRs W G xs ds → (∀ v d G' H', Grow G H G' H' → FR W G' v d → Q' d → Q v H') → p ds Q' → r xs H Q
def PurM (W : Wd) (T : String) (r : V → List V → Hp → VK → Prop) (p : D → List D → (D → Prop) → Prop) : Prop :=
  (∀ G H x dx Q', Same G H → FR W G x dx → ∀ ds, p dx ds Q' → tyV W.K T x H) ∧
  ∀ G H x xs dx ds (Q : VK) (Q' : D → Prop), Same G H → FR W G x dx → FRs W G xs ds → (∀ v d G' H', Grow G H G' H' → FR W G' v d → Q' d → Q v H') → p dx ds Q' → r x xs H Q

section
variable {W : Wd} {E : XK} {Xc : XP} {ta tb tc te : TE} {pa pb pc : PQE} {tt tu : TT} {pt pu : PQT}
/-! ### looks -/
/-- what a slot shows to a look -/
def lkL : Option Slot → Option D
  | some (.frz d) => some d
  | some (.own d) => if d.sol = true then some d else none
  | some (.par d) => if d.sol = true then some d else none
  | some (.tre t) => some t.er
  | some (.ptr t) => some t.er
  | some .nil => none
  | none => none
def qVar (i : Nat) : PQE := fun env Q => ∃ d, lkL (env[i]?) = some d ∧ Q d
theorem purq_var {i : Nat} : PurQ W E Xc (tVar i) (qVar i) := by
  intro Γ H σ env Q Q' v x k ⟨d0, hl, h⟩
  unfold lkL at hl
  split at hl
  · rename_i d e
    cases hl
    obtain ⟨u, e1, f⟩ := v.sl i _ e
    exact ⟨u, e1, k u d0 Γ H (Grow.refl v.gh) f h⟩
  · rename_i d e
    split at hl
    · rename_i hs
      cases hl
      obtain ⟨u, e1, f⟩ := v.sl i _ e hs
      exact ⟨u, e1, k u d0 Γ H (Grow.refl v.gh) f h⟩
    · cases hl
  · rename_i d e
    split at hl
    · rename_i hs
      cases hl
      obtain ⟨u, e1, f⟩ := v.sl i _ e hs
      exact ⟨u, e1, k u d0 Γ H (Grow.refl v.gh) f h⟩
    · cases hl
  · rename_i t e
    cases hl
    obtain ⟨u, e1, f⟩ := v.sl i _ e
    exact ⟨u, e1, k u _ Γ H (Grow.refl v.gh) f h⟩
  · rename_i t e
    cases hl
    obtain ⟨u, e1, f⟩ := v.sl i _ e
    exact ⟨u, e1, k u _ Γ H (Grow.refl v.gh) f h⟩
  · cases hl
  · cases hl
def qC (d : D) : PQE := fun _ Q => Q d
theorem purq_C {v : V} {d : D} (h : ∀ G, FR W G v d) : PurQ W E Xc (tC v) (qC d) := fun Γ H σ env Q Q' vw x k q => k v d Γ H (Grow.refl vw.gh) (h _) q
theorem purq_int {i : Int} : PurQ W E Xc (tC (.int i)) (qC (.int i)) := purq_C fun _ => .int i
theorem purq_str {i : Str} : PurQ W E Xc (tC (.str i)) (qC (.str i)) := purq_C fun _ => .str i
theorem purq_bl {i : Bool} : PurQ W E Xc (tC (.bl i)) (qC (.bl i)) := purq_C fun _ => .bl i
theorem purq_non : PurQ W E Xc (tC .non) (qC .non) := purq_C fun _ => .non
theorem purq_ty {a : String} : PurQ W E Xc (tC (.ty a)) (qC (.ty a)) := purq_C fun _ => .ty a
theorem purq_cls {a : Addr} : PurQ W E Xc (tC (.ref a)) (qC (.cls a)) := purq_C fun _ => .cls a
def qOp (p : D → D → (D → Prop) → Prop) (pa pb : PQE) : PQE := fun env Q => pa env fun x => pb env fun y => p x y Q
theorem purq_op {r : R2} {p : D → D → (D → Prop) → Prop} (hr : PurR2 W r p) (ha : PurQ W E Xc ta pa) (hb : PurQ W E Xc tb pb) : PurQ W E Xc (tOp r ta tb) (qOp p pa pb) := by
  intro Γ H σ env Q Q' v x k h
  refine ha Γ H σ env _ _ v x (fun v1 d1 G1 H1 g1 f1 q1 => ?_) h
  refine hb G1 H1 σ env _ _ (v.grow g1) (x.grow g1) (fun v2 d2 G2 H2 g2 f2 q2 => ?_) q1
  exact hr G2 H2 v1 v2 d1 d2 _ _ g2.gh (f1.mono g2.g) f2 (fun v3 d3 G3 H3 g3 f3 q3 => k v3 d3 G3 H3 ((g1.trans g2).trans g3) f3 q3) q2
def qUn (p : D → (D → Prop) → Prop) (pa : PQE) : PQE := fun env Q => pa env fun x => p x Q
theorem purq_un {r : V → Hp → VK → Prop} {p : D → (D → Prop) → Prop} (hr : PurR1 W r p) (ha : PurQ W E Xc ta pa) : PurQ W E Xc (tUn r ta) (qUn p pa) := by
  intro Γ H σ env Q Q' v x k h
  refine ha Γ H σ env _ _ v x (fun v1 d1 G1 H1 g1 f1 q1 => ?_) h
  exact hr G1 H1 v1 d1 _ _ g1.gh f1 (fun v3 d3 G3 H3 g3 f3 q3 => k v3 d3 G3 H3 (g1.trans g3) f3 q3) q1
/-- bools -/
def asB (Q : Bool → Prop) : D → Prop
  | .bl b => Q b
  | _ => False
theorem asB_of {W : Wd} {G : Hp} {v : V} {d : D} {Q : Bool → Prop} (f : FR W G v d) (h : asB Q d) : ∃ c, v = .bl c ∧ d = .bl c ∧ Q c := by
  cases f <;> first | exact ⟨_, rfl, rfl, h⟩ | exact h.elim
def qB (pa : PQE) : PQT := fun env Q => pa env (asB Q)
theorem purqt_B (ha : PurQ W E Xc ta pa) : PurQT W E Xc (tB ta) (qB pa) := by
  intro Γ H σ env Q Q' v x k h
  refine ha Γ H σ env _ _ v x (fun v1 d1 G1 H1 g1 f1 q1 => ?_) h
  obtain ⟨c, e1, e2, q⟩ := asB_of f1 q1
  exact ⟨c, e1, k c G1 H1 g1 q⟩
theorem purqt_test (ha : PurQ W E Xc ta pa) : PurQT W E Xc (tTest ta) (qB pa) := purqt_B ha
def qAnd (p u : PQT) : PQT := fun env Q => p env fun c => if c = true then u env Q else Q false
theorem purqt_and (h1 : PurQT W E Xc tt pt) (h2 : PurQT W E Xc tu pu) : PurQT W E Xc (tAnd tt tu) (qAnd pt pu) := by
  intro Γ H σ env Q Q' v x k h
  refine h1 Γ H σ env _ _ v x (fun b G1 H1 g1 q1 => ?_) h
  cases b with
  | true =>
    rw [if_pos rfl] at q1 ⊢
    exact h2 G1 H1 σ env _ _ (v.grow g1) (x.grow g1) (fun b G2 H2 g2 q2 => k b G2 H2 (g1.trans g2) q2) q1
  | false =>
    rw [if_neg Bool.false_ne_true] at q1 ⊢
    exact k false G1 H1 g1 q1
def qOr (p u : PQT) : PQT := fun env Q => p env fun c => if c = true then Q true else u env Q
theorem purqt_or (h1 : PurQT W E Xc tt pt) (h2 : PurQT W E Xc tu pu) : PurQT W E Xc (tOr tt tu) (qOr pt pu) := by
  intro Γ H σ env Q Q' v x k h
  refine h1 Γ H σ env _ _ v x (fun b G1 H1 g1 q1 => ?_) h
  cases b with
  | false =>
    rw [if_neg Bool.false_ne_true] at q1 ⊢
    exact h2 G1 H1 σ env _ _ (v.grow g1) (x.grow g1) (fun b G2 H2 g2 q2 => k b G2 H2 (g1.trans g2) q2) q1
  | true =>
    rw [if_pos rfl] at q1 ⊢
    exact k true G1 H1 g1 q1
def qNot (p : PQT) : PQT := fun env Q => p env fun c => Q (!c)
theorem purqt_not (h1 : PurQT W E Xc tt pt) : PurQT W E Xc (tNot tt) (qNot pt) := by
  intro Γ H σ env Q Q' v x k h
  exact h1 Γ H σ env _ _ v x (fun b G1 H1 g1 q1 => k _ G1 H1 g1 q1) h
def qAndV (p u : PQE) : PQE := fun env Q => p env (asB fun c => if c = true then u env Q else Q (.bl false))
theorem purq_andV (h1 : PurQ W E Xc ta pa) (h2 : PurQ W E Xc tb pb) : PurQ W E Xc (tAndV ta tb) (qAndV pa pb) := by
  intro Γ H σ env Q Q' v x k h
  refine h1 Γ H σ env _ _ v x (fun v1 d1 G1 H1 g1 f1 q1 => ?_) h
  obtain ⟨c, e1, e2, q1⟩ := asB_of f1 q1
  refine ⟨c, e1, ?_⟩
  cases c with
  | true =>
    rw [if_pos rfl] at q1 ⊢
    exact h2 G1 H1 σ env _ _ (v.grow g1) (x.grow g1) (fun v d G2 H2 g2 f2 q2 => k v d G2 H2 (g1.trans g2) f2 q2) q1
  | false =>
    rw [if_neg Bool.false_ne_true] at q1 ⊢
    exact k _ _ G1 H1 g1 (.bl false) q1
def qOrV (p u : PQE) : PQE := fun env Q => p env (asB fun c => if c = true then Q (.bl true) else u env Q)
theorem purq_orV (h1 : PurQ W E Xc ta pa) (h2 : PurQ W E Xc tb pb) : PurQ W E Xc (tOrV ta tb) (qOrV pa pb) := by
  intro Γ H σ env Q Q' v x k h
  refine h1 Γ H σ env _ _ v x (fun v1 d1 G1 H1 g1 f1 q1 => ?_) h
  obtain ⟨c, e1, e2, q1⟩ := asB_of f1 q1
  refine ⟨c, e1, ?_⟩
  cases c with
  | false =>
    rw [if_neg Bool.false_ne_true] at q1 ⊢
    exact h2 G1 H1 σ env _ _ (v.grow g1) (x.grow g1) (fun v d G2 H2 g2 f2 q2 => k v d G2 H2 (g1.trans g2) f2 q2) q1
  | true =>
    rw [if_pos rfl] at q1 ⊢
    exact k _ _ G1 H1 g1 (.bl true) q1
def qNotV (p : PQE) : PQE := fun env Q => p env (asB fun c => Q (.bl (!c)))
theorem purq_notV (h1 : PurQ W E Xc ta pa) : PurQ W E Xc (tNotV ta) (qNotV pa) := by
  intro Γ H σ env Q Q' v x k h
  refine h1 Γ H σ env _ _ v x (fun v1 d1 G1 H1 g1 f1 q1 => ?_) h
  obtain ⟨c, e1, e2, q1⟩ := asB_of f1 q1
  exact ⟨c, e1, k _ _ G1 H1 g1 (.bl _) q1⟩
def qIf (t : PQT) (pa pb : PQE) : PQE := fun env Q => t env fun c => if c = true then pa env Q else pb env Q
theorem purq_if (h : PurQT W E Xc tt pt) (ha : PurQ W E Xc ta pa) (hb : PurQ W E Xc tb pb) : PurQ W E Xc (tIf tt ta tb) (qIf pt pa pb) := by
  intro Γ H σ env Q Q' v x k h0
  refine h Γ H σ env _ _ v x (fun b G1 H1 g1 q1 => ?_) h0
  cases b with
  | true =>
    rw [if_pos rfl] at q1 ⊢
    exact ha G1 H1 σ env _ _ (v.grow g1) (x.grow g1) (fun v d G2 H2 g2 f2 q2 => k v d G2 H2 (g1.trans g2) f2 q2) q1
  | false =>
    rw [if_neg Bool.false_ne_true] at q1 ⊢
    exact hb G1 H1 σ env _ _ (v.grow g1) (x.grow g1) (fun v d G2 H2 g2 f2 q2 => k v d G2 H2 (g1.trans g2) f2 q2) q1
/-- arguments -/
def qNil : PQA := fun _ Q => Q []
def qCons (p : PQE) (r : PQA) : PQA := fun env Q => p env fun d => r env fun ds => Q (d :: ds)
theorem purqa_nil : PurQA W E Xc tNil qNil := fun Γ H σ env Q Q' v x k h => k [] [] Γ H (Grow.refl v.gh) .nil h
theorem purqa_cons {t : TA} {p : PQA} (h1 : PurQ W E Xc ta pa) (h2 : PurQA W E Xc t p) : PurQA W E Xc (tCons ta t) (qCons pa p) := by
  intro Γ H σ env Q Q' v x k h
  refine h1 Γ H σ env _ _ v x (fun v1 d1 G1 H1 g1 f1 q1 => ?_) h
  refine h2 G1 H1 σ env _ _ (v.grow g1) (x.grow g1) (fun vs ds G2 H2 g2 f2 q2 => ?_) q1
  exact k _ _ G2 H2 (g1.trans g2) (.cons (f1.mono g2.g) f2) q2
def qCB (p : List D → (D → Prop) → Prop) (a : PQA) : PQE := fun env Q => a env fun ds => p ds Q
theorem purq_CB {r : List V → Hp → VK → Prop} {p : List D → (D → Prop) → Prop} {t : TA} {a : PQA} (hr : PurC W r p) (ha : PurQA W E Xc t a) : PurQ W E Xc (tCB r t) (qCB p a) := by
  intro Γ H σ env Q Q' v x k h
  refine ha Γ H σ env _ _ v x (fun vs ds G1 H1 g1 f1 q1 => ?_) h
  exact hr G1 H1 vs ds _ _ g1.gh f1 (fun v d G2 H2 g2 f2 q2 => k v d G2 H2 (g1.trans g2) f2 q2) q1
/-- methods of built-in types that change nothing -/
def qBM (p : D → List D → (D → Prop) → Prop) (pa : PQE) (a : PQA) : PQE := fun env Q => pa env fun d => a env fun ds => p d ds Q
def qTup (a : PQA) : PQE := fun env Q => a env fun ds => ds.length ≤ sizeLine ∧ Q (.tup ds)
def qLst (a : PQA) : PQE := fun env Q => a env fun ds => ds.length ≤ sizeLine ∧ Q (.lst ds)
theorem purq_tup {t : TA} {a : PQA} (ha : PurQA W E Xc t a) : PurQ W E Xc (tTup t) (qTup a) := by
  intro Γ H σ env Q Q' v x k h
  refine ha Γ H σ env _ _ v x (fun vs ds G1 H1 g1 f1 q1 => ⟨by rw [f1.length]; exact q1.1, fun p hp => ?_⟩) h
  have g2 := Grow.new (o := .tup vs) g1.gh hp
  exact k _ _ _ _ (g1.trans g2) (.tup (.inl (.inl upd_same)) (f1.mono g2.g)) q1.2
theorem purq_lst {t : TA} {a : PQA} (ha : PurQA W E Xc t a) : PurQ W E Xc (tLst t) (qLst a) := by
  intro Γ H σ env Q Q' v x k h
  refine ha Γ H σ env _ _ v x (fun vs ds G1 H1 g1 f1 q1 => ⟨by rw [f1.length]; exact q1.1, fun p hp => ?_⟩) h
  have g2 := Grow.new (o := .lst vs) g1.gh hp
  exact k _ _ _ _ (g1.trans g2) (.lst upd_same (f1.mono g2.g)) q1.2
end
end Pu

set_option Elab.async false
set_option linter.all false
set_option maxRecDepth 100000
namespace Pu
open PySem PySem.Spec L2

/-! ### data that == tells apart as they are -/
mutual
def D.py : D → PyData
  | .non => .none
  | .bl b => .bool b
  | .int i => .int i
  | .str x => .str x
  | .tup xs => .tuple (D.pys xs)
  | .lst xs => .list (D.pys xs)
  | .dct _ _ => .none
  | .obj _ _ _ => .none
  | .hdl _ _ => .none
  | .cls _ => .none
  | .ty _ => .none
  | .exc _ _ _ _ => .none
  | .scr _ => .none
def D.pys : List D → List PyData
  | [] => []
  | d :: ds => D.py d :: D.pys ds
end
def okStr (x : Str) : Bool := x.cps.all (· < 0x110000)
mutual
/-- plain: to the depth n, signs in bounds -/
def D.pl : Nat → D → Bool
  | _, .non => true
  | _, .bl _ => true
  | _, .int _ => true
  | _, .str x => okStr x
  | n + 1, .tup xs => D.pls n xs
  | n + 1, .lst xs => D.pls n xs
  | _, _ => false
def D.pls : Nat → List D → Bool
  | _, [] => true
  | n, d :: ds => D.pl n d && D.pls n ds
end
mutual
/-- no True beside 1 -/
def D.nm : D → D → Bool
  | .bl _, .int _ => false
  | .int _, .bl _ => false
  | .tup xs, .tup ys => D.nms xs ys
  | .lst xs, .lst ys => D.nms xs ys
  | _, _ => true
def D.nms : List D → List D → Bool
  | x :: xs, y :: ys => D.nm x y && D.nms xs ys
  | _, _ => true
end
mutual
theorem D.lay : ∀ (n : Nat) (d : D), D.pl n d = true → PyData.canLay0 d.py = true ∧ PyData.depth d.py ≤ n
  | _, .non, _ => by simp [D.py, PyData.canLay0, PyData.depth]
  | _, .bl _, _ => by simp [D.py, PyData.canLay0, PyData.depth]
  | _, .int _, _ => by simp [D.py, PyData.canLay0, PyData.depth]
  | _, .str x, h => by
    have h' : okStr x = true := by simpa [D.pl] using h
    simp only [D.py, PyData.canLay0, PyData.depth]
    exact ⟨h', Nat.zero_le _⟩
  | 0, .tup xs, h => by simp [D.pl] at h
  | 0, .lst xs, h => by simp [D.pl] at h
  | n + 1, .tup xs, h => by
    have := D.lays n xs (by simpa [D.pl] using h)
    simp only [D.py, PyData.canLay0, PyData.depth]
    exact ⟨this.1, by omega⟩
  | n + 1, .lst xs, h => by
    have := D.lays n xs (by simpa [D.pl] using h)
    simp only [D.py, PyData.canLay0, PyData.depth]
    exact ⟨this.1, by omega⟩
  | 0, .dct _ _, h => by simp [D.pl] at h
  | 0, .obj _ _ _, h => by simp [D.pl] at h
  | _ + 1, .obj _ _ _, h => by simp [D.pl] at h
  | 0, .hdl _ _, h => by simp [D.pl] at h
  | 0, .cls _, h => by simp [D.pl] at h
  | 0, .ty _, h => by simp [D.pl] at h
  | 0, .exc _ _ _ _, h => by simp [D.pl] at h
  | 0, .scr _, h => by simp [D.pl] at h
  | _ + 1, .scr _, h => by simp [D.pl] at h
  | _ + 1, .ty _, h => by simp [D.pl] at h
  | _ + 1, .exc _ _ _ _, h => by simp [D.pl] at h
  | _ + 1, .dct _ _, h => by simp [D.pl] at h
  | _ + 1, .hdl _ _, h => by simp [D.pl] at h
  | _ + 1, .cls _, h => by simp [D.pl] at h
theorem D.lays : ∀ (n : Nat) (ds : List D), D.pls n ds = true → PyData.canLayAll0 (D.pys ds) = true ∧ PyData.depthAll (D.pys ds) ≤ n
  | _, [], _ => by simp [D.pys, PyData.canLayAll0, PyData.depthAll]
  | n, d :: ds, h => by
    have h' : D.pl n d = true ∧ D.pls n ds = true := by simpa [D.pls] using h
    obtain ⟨a1, a2⟩ := D.lay n d h'.1
    obtain ⟨b1, b2⟩ := D.lays n ds h'.2
    simp only [D.pys, PyData.canLayAll0, PyData.depthAll, a1, b1]
    exact ⟨rfl, by omega⟩
end
mutual
theorem D.dp {W : Wd} {G : Hp} : ∀ {n : Nat} {v : V} {d : D}, FR W G v d → D.pl n d = true → Dp W.K G v d.py
  | _, _, _, .non, _ => by simp only [D.py]; exact .non
  | _, _, _, .bl b, _ => by simp only [D.py]; exact .bl b
  | _, _, _, .int b, _ => by simp only [D.py]; exact .int b
  | _, _, _, .str b, _ => by simp only [D.py]; exact .str b
  | 0, _, _, .cls b, h => by simp [D.pl] at h
  | 0, _, _, .ty b, h => by simp [D.pl] at h
  | 0, _, _, .exc _ _, h => by simp [D.pl] at h
  | 0, _, _, .scr _, h => by simp [D.pl] at h
  | _ + 1, _, _, .scr _, h => by simp [D.pl] at h
  | _ + 1, _, _, .ty b, h => by simp [D.pl] at h
  | _ + 1, _, _, .exc _ _, h => by simp [D.pl] at h
  | _ + 1, _, _, .cls b, h => by simp [D.pl] at h
  | 0, _, _, .dct _ _ _ _, h => by simp [D.pl] at h
  | _ + 1, _, _, .dct _ _ _ _, h => by simp [D.pl] at h
  | 0, _, _, .obj _ _ _ _ _, h => by simp [D.pl] at h
  | _ + 1, _, _, .obj _ _ _ _ _, h => by simp [D.pl] at h
  | 0, _, _, .tup h t, q => by simp [D.pl] at q
  | 0, _, _, .lst h t, q => by simp [D.pl] at q
  | n + 1, _, _, .tup h t, q => by
    simp only [D.py]
    exact .tup h (D.dps t (by simpa [D.pl] using q))
  | n + 1, _, _, .lst h t, q => by
    simp only [D.py]
    exact .lst (SqL.of h) (D.dps t (by simpa [D.pl] using q))
theorem D.dps {W : Wd} {G : Hp} : ∀ {n : Nat} {vs : List V} {ds : List D}, FRs W G vs ds → D.pls n ds = true → DpAll W.K G vs (D.pys ds)
  | _, _, _, .nil, _ => by simp only [D.pys]; exact .nil
  | n, _, _, @FRs.cons _ _ _ _ d ds h t, q => by
    have q' : D.pl n d = true ∧ D.pls n ds = true := by simpa [D.pls] using q
    simp only [D.pys]
    exact .cons (D.dp h q'.1) (D.dps t q'.2)
end
mutual
theorem D.eqv_dec : ∀ (n m : Nat) (d e : D), D.pl n d = true → D.pl m e = true → D.nm d e = true → PyData.eqv d.py e.py = decide (d = e)
  | n, m, .non, e, _, h, _ => by cases e <;> first | (simp [D.py, PyData.eqv]; done) | (cases m <;> simp [D.pl] at h)
  | n, m, .bl a, e, _, h, q => by cases e <;> first | (simp [D.py, PyData.eqv]; done) | (cases m <;> simp [D.pl] at h; done) | (simp [D.nm] at q; done) | (simp [D.py, PyData.eqv, Bool.beq_eq_decide_eq]; done)
  | n, m, .int a, e, _, h, q => by cases e <;> first | (simp [D.py, PyData.eqv]; done) | (cases m <;> simp [D.pl] at h; done) | (simp [D.nm] at q; done) | (simp [D.py, PyData.eqv, Bool.beq_eq_decide_eq]; done)
  | n, m, .str a, e, _, h, q => by cases e <;> first | (simp [D.py, PyData.eqv]; done) | (cases m <;> simp [D.pl] at h; done) | (simp [D.py, PyData.eqv, Bool.beq_eq_decide_eq]; done)
  | 0, m, .tup xs, e, h, _, _ => by simp [D.pl] at h
  | 0, m, .lst xs, e, h, _, _ => by simp [D.pl] at h
  | n + 1, 0, .tup xs, e, h, h2, q => by
    cases e <;> first | (simp [D.py, PyData.eqv]; done) | (simp [D.pl] at h2; done)
  | n + 1, 0, .lst xs, e, h, h2, q => by
    cases e <;> first | (simp [D.py, PyData.eqv]; done) | (simp [D.pl] at h2; done)
  | n + 1, m + 1, .tup xs, e, h, h2, q => by
    cases e <;> first | (simp [D.py, PyData.eqv]; done) | (simp [D.pl] at h2; done) | skip
    rename_i ys
    have := D.eqvs_dec n m xs ys (by simpa [D.pl] using h) (by simpa [D.pl] using h2) (by simpa [D.nm] using q)
    simp [D.py, PyData.eqv, this]
  | n + 1, m + 1, .lst xs, e, h, h2, q => by
    cases e <;> first | (simp [D.py, PyData.eqv]; done) | (simp [D.pl] at h2; done) | skip
    rename_i ys
    have := D.eqvs_dec n m xs ys (by simpa [D.pl] using h) (by simpa [D.pl] using h2) (by simpa [D.nm] using q)
    simp [D.py, PyData.eqv, this]
  | 0, _, .dct _ _, _, h, _, _ => by simp [D.pl] at h
  | 0, _, .obj _ _ _, _, h, _, _ => by simp [D.pl] at h
  | _ + 1, _, .obj _ _ _, _, h, _, _ => by simp [D.pl] at h
  | 0, _, .hdl _ _, _, h, _, _ => by simp [D.pl] at h
  | 0, _, .cls _, _, h, _, _ => by simp [D.pl] at h
  | 0, _, .ty _, _, h, _, _ => by simp [D.pl] at h
  | 0, _, .exc _ _ _ _, _, h, _, _ => by simp [D.pl] at h
  | 0, _, .scr _, _, h, _, _ => by simp [D.pl] at h
  | _ + 1, _, .scr _, _, h, _, _ => by simp [D.pl] at h
  | _ + 1, _, .ty _, _, h, _, _ => by simp [D.pl] at h
  | _ + 1, _, .exc _ _ _ _, _, h, _, _ => by simp [D.pl] at h
  | _ + 1, _, .dct _ _, _, h, _, _ => by simp [D.pl] at h
  | _ + 1, _, .hdl _ _, _, h, _, _ => by simp [D.pl] at h
  | _ + 1, _, .cls _, _, h, _, _ => by simp [D.pl] at h
theorem D.eqvs_dec : ∀ (n m : Nat) (d e : List D), D.pls n d = true → D.pls m e = true → D.nms d e = true → PyData.eqvAll (D.pys d) (D.pys e) = decide (d = e)
  | _, _, [], e, _, _, _ => by cases e <;> simp [D.pys, PyData.eqvAll]
  | _, _, d :: ds, [], _, _, _ => by simp [D.pys, PyData.eqvAll]
  | n, m, d :: ds, e :: es, h1, h2, h3 => by
    have h1' : D.pl n d = true ∧ D.pls n ds = true := by simpa [D.pls] using h1
    have h2' : D.pl m e = true ∧ D.pls m es = true := by simpa [D.pls] using h2
    have h3' : D.nm d e = true ∧ D.nms ds es = true := by simpa [D.nms] using h3
    simp only [D.pys, PyData.eqvAll, D.eqv_dec n m d e h1'.1 h2'.1 h3'.1, D.eqvs_dec n m ds es h1'.2 h2'.2 h3'.2]
    rw [Bool.eq_iff_iff]
    simp
end
theorem dp_same {K : PySem.W.Frag} {H H' : Hp} (e : Same H H') {v : V} {d : PyData} (h : Dp K H v d) : Dp K H' v d :=
  Dp.rec (K := K) (H := H) (motive_1 := fun v d _ => Dp K H' v d) (motive_2 := fun vs ds _ => DpAll K H' vs ds) .non .bl .int .str
    (fun h _ i => .lst (e.seq h) i) (fun h _ i => .tup (sqt_mono e h) i) .nil (fun _ _ a b => .cons a b) h

/-! ### the operators, by data -/
def scalD : D → D → Bool
  | .non, .non => true | .non, .int _ => true | .int _, .non => true | .non, .bl _ => true | .bl _, .non => true | .non, .str _ => true | .str _, .non => true
  | .int _, .int _ => true | .bl _, .bl _ => true | .str _, .str _ => true
  | .int _, .str _ => true | .str _, .int _ => true | .bl _, .str _ => true | .str _, .bl _ => true
  | _, _ => false
def eqOk (x y : D) : Bool := scalD x y || (D.pl 60 x && D.pl 60 y && D.nm x y)
def pEq (x y : D) (Q : D → Prop) : Prop := eqOk x y = true ∧ Q (.bl (decide (x = y)))
def pNe (x y : D) (Q : D → Prop) : Prop := eqOk x y = true ∧ Q (.bl (!decide (x = y)))
section
variable {W : Wd}
theorem scal_of {G : Hp} {x y : V} {d e : D} (h1 : FR W G x d) (h2 : FR W G y e) (h : scalD d e = true) : scal x y = true ∧ decide (x = y) = decide (d = e) := by
  cases h1 <;> cases h2 <;> first | (cases h; done) | simp [scal]
theorem plain_of {G H : Hp} (e : Same G H) {x y : V} {dx dy : D} (h1 : FR W G x dx) (h2 : FR W G y dy) (h : (D.pl 60 dx && D.pl 60 dy && D.nm dx dy) = true) :
    Dp W.K H x dx.py ∧ Dp W.K H y dy.py ∧ SeqAt.shaped dx.py = true ∧ SeqAt.shaped dy.py = true ∧ PyData.eqv dx.py dy.py = decide (dx = dy) := by
  have h' : (D.pl 60 dx = true ∧ D.pl 60 dy = true) ∧ D.nm dx dy = true := by simpa using h
  obtain ⟨a1, a2⟩ := D.lay 60 dx h'.1.1
  obtain ⟨b1, b2⟩ := D.lay 60 dy h'.1.2
  refine ⟨dp_same e (D.dp h1 h'.1.1), dp_same e (D.dp h2 h'.1.2), ?_, ?_, D.eqv_dec 60 60 dx dy h'.1.1 h'.1.2 h'.2⟩
  · unfold SeqAt.shaped
    rw [a1, decide_eq_true (by omega)]; rfl
  · unfold SeqAt.shaped
    rw [b1, decide_eq_true (by omega)]; rfl
theorem pr_eq : PurR2 W (fun x y H Q => rEq x y H Q ∨ rEqD W.K x y H Q) pEq := by
  intro G H x y dx dy Q Q' e f1 f2 k h
  obtain ⟨h1, h2⟩ := h
  by_cases hs : scalD dx dy = true
  · obtain ⟨a, b⟩ := scal_of f1 f2 hs
    exact .inl ⟨a, by rw [b]; exact k _ _ G H (Grow.refl e) (.bl _) h2⟩
  · have h3 : (D.pl 60 dx && D.pl 60 dy && D.nm dx dy) = true := by
      unfold eqOk at h1
      rw [Bool.or_eq_true] at h1
      exact h1.resolve_left hs
    obtain ⟨a, b, c, d, q⟩ := plain_of e f1 f2 h3
    exact .inr ⟨_, _, a, b, c, d, by rw [q]; exact k _ _ G H (Grow.refl e) (.bl _) h2⟩
theorem pr_ne : PurR2 W (fun x y H Q => rNe x y H Q ∨ rNeD W.K x y H Q) pNe := by
  intro G H x y dx dy Q Q' e f1 f2 k h
  obtain ⟨h1, h2⟩ := h
  by_cases hs : scalD dx dy = true
  · obtain ⟨a, b⟩ := scal_of f1 f2 hs
    exact .inl ⟨a, by rw [b]; exact k _ _ G H (Grow.refl e) (.bl _) h2⟩
  · have h3 : (D.pl 60 dx && D.pl 60 dy && D.nm dx dy) = true := by
      unfold eqOk at h1
      rw [Bool.or_eq_true] at h1
      exact h1.resolve_left hs
    obtain ⟨a, b, c, d, q⟩ := plain_of e f1 f2 h3
    exact .inr ⟨_, _, a, b, c, d, by rw [q]; exact k _ _ G H (Grow.refl e) (.bl _) h2⟩
theorem op_eqA {X : Cx} (hu : X.A.units + 64 < cLine) : OpR X (compareOp .Eq) (fun x y H Q => rEq x y H Q ∨ rEqD X.K x y H Q) := op_eq.or (op_eqD hu)
theorem op_neA {X : Cx} (hu : X.A.units + 64 < cLine) : OpR X (compareOp .NotEq) (fun x y H Q => rNe x y H Q ∨ rNeD X.K x y H Q) := op_ne.or (op_neD hu)

/-- two ints -/
def pI2 (C : Int → Int → Prop) (g : Int → Int → D) : D → D → (D → Prop) → Prop
  | .int i, .int j, Q => C i j ∧ Q (g i j)
  | _, _, _ => False
def pI0 (g : Int → Int → D) : D → D → (D → Prop) → Prop
  | .int i, .int j, Q => Q (g i j)
  | _, _, _ => False
theorem pI2_of {C : Int → Int → Prop} {g : Int → Int → D} {G : Hp} {x y : V} {dx dy : D} {Q : D → Prop} (f1 : FR W G x dx) (f2 : FR W G y dy) (h : pI2 C g dx dy Q) : ∃ i j, x = .int i ∧ y = .int j ∧ C i j ∧ Q (g i j) := by
  cases f1 <;> first | (exact h.elim) | skip
  cases f2 <;> first | (exact h.elim) | exact ⟨_, _, rfl, rfl, h.1, h.2⟩
theorem pI0_of {g : Int → Int → D} {G : Hp} {x y : V} {dx dy : D} {Q : D → Prop} (f1 : FR W G x dx) (f2 : FR W G y dy) (h : pI0 g dx dy Q) : ∃ i j, x = .int i ∧ y = .int j ∧ Q (g i j) := by
  cases f1 <;> first | (exact h.elim) | skip
  cases f2 <;> first | (exact h.elim) | exact ⟨_, _, rfl, rfl, h⟩
theorem pr_I {C : Int → Int → Prop} {g : Int → Int → Int} : PurR2 W (rI C fun i j => .int (g i j)) (pI2 C fun i j => .int (g i j)) := by
  intro G H x y dx dy Q Q' e f1 f2 k h
  obtain ⟨i, j, e1, e2, c, q⟩ := pI2_of f1 f2 h
  exact ⟨i, j, e1, e2, c, k _ _ G H (Grow.refl e) (.int _) q⟩
theorem pr_I0 {g : Int → Int → Int} : PurR2 W (rI0 fun i j => .int (g i j)) (pI0 fun i j => .int (g i j)) := by
  intro G H x y dx dy Q Q' e f1 f2 k h
  obtain ⟨i, j, e1, e2, q⟩ := pI0_of f1 f2 h
  exact ⟨i, j, e1, e2, k _ _ G H (Grow.refl e) (.int _) q⟩
theorem pr_B0 {g : Int → Int → Bool} : PurR2 W (rI0 fun i j => .bl (g i j)) (pI0 fun i j => .bl (g i j)) := by
  intro G H x y dx dy Q Q' e f1 f2 k h
  obtain ⟨i, j, e1, e2, q⟩ := pI0_of f1 f2 h
  exact ⟨i, j, e1, e2, k _ _ G H (Grow.refl e) (.bl _) q⟩
def pU (g : Int → Int) : D → (D → Prop) → Prop
  | .int i, Q => Q (.int (g i))
  | _, _ => False
theorem pr_U {g : Int → Int} : PurR1 W (rU fun i => .int (g i)) (pU g) := by
  intro G H x dx Q Q' e f1 k h
  cases f1 <;> first | (exact h.elim) | exact ⟨_, rfl, k _ _ G H (Grow.refl e) (.int _) h⟩
/-- + of any kind -/
def pAdd : D → D → (D → Prop) → Prop
  | .int i, .int j, Q => Q (.int (i + j))
  | .str a, .str b, Q => a.length + b.length ≤ sizeLine ∧ Q (.str (a ++ b))
  | .lst a, .lst b, Q => a.length + b.length ≤ sizeLine ∧ Q (.lst (a ++ b))
  | .tup a, .tup b, Q => a.length + b.length ≤ sizeLine ∧ Q (.tup (a ++ b))
  | _, _, _ => False
def isNone : D → Bool
  | .non => true
  | _ => false
def pIsN (x y : D) (Q : D → Prop) : Prop := y = .non ∧ Q (.bl (isNone x))
def pNotN (x y : D) (Q : D → Prop) : Prop := y = .non ∧ Q (.bl (!isNone x))
theorem isNone_of {G : Hp} {x : V} {d : D} (f : FR W G x d) : decide (x = .non) = isNone d := by cases f <;> simp [isNone]
theorem frnon {G : Hp} {y : V} (f : FR W G y .non) : y = .non := by cases f; rfl
theorem pr_isN : PurR2 W (fun x y H Q => y = .non ∧ Q (.bl (decide (x = .non))) H) pIsN := by
  intro G H x y dx dy Q Q' e f1 f2 k h
  obtain ⟨rfl, q⟩ := h
  exact ⟨frnon f2, by rw [isNone_of f1]; exact k _ _ G H (Grow.refl e) (.bl _) q⟩
theorem pr_notN : PurR2 W (fun x y H Q => y = .non ∧ Q (.bl (!decide (x = .non))) H) pNotN := by
  intro G H x y dx dy Q Q' e f1 f2 k h
  obtain ⟨rfl, q⟩ := h
  exact ⟨frnon f2, by rw [isNone_of f1]; exact k _ _ G H (Grow.refl e) (.bl _) q⟩
/-- a[i] -/
def pIx : D → D → (D → Prop) → Prop
  | .lst xs, .int i, Q => match atI xs i with
    | some d => Q d
    | none => False
  | .tup xs, .int i, Q => match atI xs i with
    | some d => Q d
    | none => False
  | .str z, .int i, Q => z.length ≤ sizeLine ∧ match atI z.cps.toList i with
    | some c => Q (.str ⟨#[c]⟩)
    | none => False
  | _, _, _ => False
theorem atI_frs {G : Hp} {vs : List V} {ds : List D} {i : Int} {d : D} (f : FRs W G vs ds) (h : atI ds i = some d) : ∃ v, atI vs i = some v ∧ FR W G v d := by
  unfold atI at h ⊢
  rw [f.length]
  cases e : ixN ds.length i with
  | none => rw [e] at h; cases h
  | some j =>
    rw [e] at h
    exact f.get h
theorem pr_ix : PurR2 W (rIx W.K) pIx := by
  intro G H x y dx dy Q Q' e f1 f2 k h
  cases f1 with
  | lst hs t =>
    cases f2 <;> first | (exact h.elim) | skip
    simp only [pIx] at h
    split at h
    · rename_i d hd
      obtain ⟨v, hv, fv⟩ := atI_frs t hd
      exact .inl ⟨_, _, _, v, rfl, rfl, SqL.of (e _ _ hs), hv, k v d G H (Grow.refl e) fv h⟩
    · exact h.elim
  | tup hs t =>
    cases f2 <;> first | (exact h.elim) | skip
    simp only [pIx] at h
    split at h
    · rename_i d hd
      obtain ⟨v, hv, fv⟩ := atI_frs t hd
      exact .inr (.inl ⟨_, _, _, v, rfl, rfl, sqt_mono e hs, hv, k v d G H (Grow.refl e) fv h⟩)
    · exact h.elim
  | str z =>
    cases f2 <;> first | (exact h.elim) | skip
    simp only [pIx] at h
    obtain ⟨hz, h⟩ := h
    split at h
    · rename_i c hc
      exact .inr (.inr ⟨_, _, c, rfl, rfl, hz, hc, k _ _ G H (Grow.refl e) (.str _) h⟩)
    · exact h.elim
  | _ => exact h.elim
/-- by one argument -/
def p1 (p : D → (D → Prop) → Prop) : List D → (D → Prop) → Prop
  | [d], Q => p d Q
  | _, _ => False
def p2 (p : D → D → (D → Prop) → Prop) : List D → (D → Prop) → Prop
  | [d, e], Q => p d e Q
  | _, _ => False
theorem p1_of {p : D → (D → Prop) → Prop} {ds : List D} {Q : D → Prop} (h : p1 p ds Q) : ∃ d, ds = [d] ∧ p d Q := by
  cases ds with
  | nil => exact h.elim
  | cons d r => cases r with
    | nil => exact ⟨d, rfl, h⟩
    | cons _ _ => exact h.elim
theorem p2_of {p : D → D → (D → Prop) → Prop} {ds : List D} {Q : D → Prop} (h : p2 p ds Q) : ∃ d e, ds = [d, e] ∧ p d e Q := by
  cases ds with
  | nil => exact h.elim
  | cons d r => cases r with
    | nil => exact h.elim
    | cons e r => cases r with
      | nil => exact ⟨d, e, rfl, h⟩
      | cons _ _ => exact h.elim
theorem frs1 {G : Hp} {xs : List V} {d : D} (f : FRs W G xs [d]) : ∃ v, xs = [v] ∧ FR W G v d := by
  cases f with
  | cons h t => cases t; exact ⟨_, rfl, h⟩
theorem frs2 {G : Hp} {xs : List V} {d e : D} (f : FRs W G xs [d, e]) : ∃ v u, xs = [v, u] ∧ FR W G v d ∧ FR W G u e := by
  cases f with
  | cons h t =>
    obtain ⟨u, rfl, h2⟩ := frs1 t
    exact ⟨_, _, rfl, h, h2⟩
theorem pc_1 {r : List V → Hp → VK → Prop} {p : D → (D → Prop) → Prop} (h : PurR1 W (fun x => r [x]) p) : PurC W r (p1 p) := by
  intro G H xs ds Q Q' e f k q
  obtain ⟨d, rfl, q⟩ := p1_of q
  obtain ⟨v, rfl, f1⟩ := frs1 f
  exact h G H v d Q Q' e f1 k q
theorem pc_2 {r : List V → Hp → VK → Prop} {p : D → D → (D → Prop) → Prop} (h : PurR2 W (fun x y => r [x, y]) p) : PurC W r (p2 p) := by
  intro G H xs ds Q Q' e f k q
  obtain ⟨d, d2, rfl, q⟩ := p2_of q
  obtain ⟨v, u, rfl, f1, f2⟩ := frs2 f
  exact h G H v u d d2 Q Q' e f1 f2 k q
/-- len -/
def pLen : D → (D → Prop) → Prop
  | .lst xs, Q => Q (.int xs.length)
  | .tup xs, Q => Q (.int xs.length)
  | .str z, Q => z.length ≤ sizeLine ∧ Q (.int z.length)
  | _, _ => False
theorem pc_len : PurC W (fun xs H Q => ∃ x n, xs = [x] ∧ LenV W.K x H n ∧ Q (.int n) H) (p1 pLen) := pc_1 <| by
  intro G H x d Q Q' e f k h
  cases f with
  | lst hs t => exact ⟨_, _, rfl, .inl ⟨_, SqL.of (e _ _ hs), rfl⟩, k _ _ G H (Grow.refl e) (.int _) (by rw [t.length]; exact h)⟩
  | tup hs t => exact ⟨_, _, rfl, .inr ⟨_, sqt_mono e hs, rfl⟩, k _ _ G H (Grow.refl e) (.int _) (by rw [t.length]; exact h)⟩
  | str z => exact ⟨_, _, rfl, ⟨h.1, rfl⟩, k _ _ G H (Grow.refl e) (.int _) h.2⟩
  | _ => exact h.elim
/-- int(..), abs(..) -/
def pInt1 : D → (D → Prop) → Prop
  | .int i, Q => Q (.int i)
  | _, _ => False
theorem pc_int1 : PurC W (fun xs H Q => (∃ i, xs = [.int i] ∧ Q (.int i) H) ∨ ∃ k, xs = [.bl k] ∧ Q (.int (if k then 1 else 0)) H) (p1 pInt1) := pc_1 <| by
  intro G H x d Q Q' e f k h
  cases f <;> first | (exact h.elim) | exact .inl ⟨_, rfl, k _ _ G H (Grow.refl e) (.int _) h⟩
def pAbs : D → (D → Prop) → Prop
  | .int i, Q => Q (.int (if i < 0 then -i else i))
  | _, _ => False
theorem pc_abs : PurC W (fun xs H Q => ∃ i, xs = [.int i] ∧ Q (.int (if i < 0 then -i else i)) H) (p1 pAbs) := pc_1 <| by
  intro G H x d Q Q' e f k h
  cases f <;> first | (exact h.elim) | exact ⟨_, rfl, k _ _ G H (Grow.refl e) (.int _) h⟩
end
end Pu

set_option Elab.async false
set_option linter.all false
set_option maxRecDepth 100000
namespace Pu
open PySem PySem.Spec L2

/-! ### from the state to a look -/
open Classical in
noncomputable def allF (φ : Nat → Hp) : Hp := fun b => if h : ∃ i, φ i b ≠ none then φ h.choose b else none
theorem allF_same {φ : Nat → Hp} (dis : ∀ i j, i ≠ j → Dis (φ i) (φ j)) (i : Nat) : Same (φ i) (allF φ) := fun b o e => by
  have h : ∃ i, φ i b ≠ none := ⟨i, ne_none_of e⟩
  unfold allF
  rw [dif_pos h]
  by_cases hi : i = h.choose
  · rw [← hi]; exact e
  · rcases dis i _ hi b with z | z
    · rw [z] at e; cases e
    · exact absurd z h.choose_spec
theorem allF_some {φ : Nat → Hp} {b : Addr} {o : HO} (e : allF φ b = some o) : ∃ i, φ i b = some o := by
  unfold allF at e
  by_cases h : ∃ i, φ i b ≠ none
  · rw [dif_pos h] at e
    exact ⟨_, e⟩
  · rw [dif_neg h] at e
    cases e
section
variable {W : Wd} {Z : Addr → Prop} {σ0 : L2.St} {H G H' G' : Hp} {σ : L2.St} {env : Env} {φ : Nat → Hp}
theorem ER.dAll (e : ER W Z σ0 H G σ env φ) : Dis G (allF φ) := fun b => by
  cases h : allF φ b with
  | none => exact .inr rfl
  | some o =>
    obtain ⟨i, hi⟩ := allF_some h
    rcases e.dg i b with z | z
    · exact .inl z
    · rw [z] at hi; cases hi
theorem ER.vw (e : ER W Z σ0 H G σ env φ) : Vw W (un G (allF φ)) H σ env := by
  refine ⟨e.len.1, un_sub e.gh fun b o h => ?_, fun i s h => ?_⟩
  · obtain ⟨i, hi⟩ := allF_some h
    exact e.sub i b o hi
  · have hs := e.sl i s h
    have hF : Same (φ i) (un G (allF φ)) := (allF_same e.dis i).trans (un_r e.dAll)
    have key : ∀ {v : V} {d : D}, OR W G (φ i) v d → d.sol = true → FR W (un G (allF φ)) v d := fun {v d} ho hd => by
      cases ho with
      | lst h t => exact .lst (hF _ _ h) (t.mono un_l)
      | hdl _ => cases hd
    cases s with
    | nil => exact trivial
    | frz d => obtain ⟨v, a, b⟩ := hs; exact ⟨v, a, b.mono un_l⟩
    | own d => obtain ⟨v, a, b⟩ := hs; exact fun hd => ⟨v, a, key b hd⟩
    | par d => obtain ⟨v, a, c, b⟩ := hs; exact fun hd => ⟨v, a, key b hd⟩
    | tre t => obtain ⟨v, a, b⟩ := hs; exact ⟨v, a, (b.freeze (e.dg i)).mono (un_sub un_l hF)⟩
    | ptr t => obtain ⟨v, a, c, b⟩ := hs; exact ⟨v, a, (b.freeze (e.dg i)).mono (un_sub un_l hF)⟩
theorem ER.growExt (e : ER W Z σ0 H G σ env φ) (g : Grow (un G (allF φ)) H G' H') : Ext Z G H G' H' := by
  refine ⟨un_l.trans g.g, fun b o h => ?_, fun b o h _ => g.h b o h⟩
  rcases g.n b o h with h | h
  · rcases un_cases h with h | ⟨_, h⟩
    · exact .inl h
    · obtain ⟨i, hi⟩ := allF_some h
      exact .inr (e.zs i b (ne_none_of hi))
  · exact .inr (e.zn b h)
theorem ER.growH (e : ER W Z σ0 H G σ env φ) (h : Same H H') : ER W Z σ0 H' G σ env φ :=
  ⟨e.len, e.sl, e.dis, e.dg, fun i => (e.sub i).trans h, e.gh.trans h, fun b n => e.zn b (h.free n), e.zs⟩
theorem Ext.growH (h : Same H H') : Ext Z G H G H' := ⟨Same.refl _, fun _ _ e => .inl e, fun b o e _ => h b o e⟩
theorem XOk.view {E : XK} {Xc : XP} (e : ER W Z σ0 H G σ env φ) (x : XOk W Z G H E Xc) : XV W (un G (allF φ)) H E Xc :=
  fun C f d v dx Γ' H' g h0 h1 h3 h4 => x C f d v dx H' Γ' (e.growExt g) g.gh (e.zn dx h0) h1 h3 h4
theorem XOk.ext {E : XK} {Xc : XP} (x : XOk W Z G H E Xc) (t : Ext Z G H G' H') : XOk W Z G' H' E Xc :=
  fun C f d v dx H2 G2 t2 s h0 h1 h3 h4 => x C f d v dx H2 G2 (t.trans t2) s h0 h1 h3 h4
end

/-! ### with effects -/
def VKOk (W : Wd) (Z : Addr → Prop) (σ0 : L2.St) (G H : Hp) (σ : L2.St) (Q : VK) (Q' : D → Env → Prop) : Prop :=
  ∀ v d H' G' env' φ', Ext Z G H G' H' → ER W Z σ0 H' G' σ env' φ' → FR W G' v d → Q' d env' → Q v H'
def PurE (W : Wd) (E : XK) (Xc : XP) (te : TE) (pe : PTE) : Prop :=
  ∀ Z σ0 H G σ env φ Q Q', ER W Z σ0 H G σ env φ → XOk W Z G H E Xc → VKOk W Z σ0 G H σ Q Q' → pe env Q' → te σ H Q
def BKOk (W : Wd) (Z : Addr → Prop) (σ0 : L2.St) (G H : Hp) (σ : L2.St) (Q : Bool → Hp → Prop) (Q' : Bool → Env → Prop) : Prop :=
  ∀ b H' G' env' φ', Ext Z G H G' H' → ER W Z σ0 H' G' σ env' φ' → Q' b env' → Q b H'
def PurT (W : Wd) (E : XK) (Xc : XP) (tt : TT) (pt : PTT) : Prop :=
  ∀ Z σ0 H G σ env φ Q Q', ER W Z σ0 H G σ env φ → XOk W Z G H E Xc → BKOk W Z σ0 G H σ Q Q' → pt env Q' → tt σ H Q
def AKOk (W : Wd) (Z : Addr → Prop) (σ0 : L2.St) (G H : Hp) (σ : L2.St) (Q : List V → Hp → Prop) (Q' : List D → Env → Prop) : Prop :=
  ∀ vs ds H' G' env' φ', Ext Z G H G' H' → ER W Z σ0 H' G' σ env' φ' → FRs W G' vs ds → Q' ds env' → Q vs H'
def PurA (W : Wd) (E : XK) (Xc : XP) (ta : TA) (pa : PTA) : Prop :=
  ∀ Z σ0 H G σ env φ Q Q', ER W Z σ0 H G σ env φ → XOk W Z G H E Xc → AKOk W Z σ0 G H σ Q Q' → pa env Q' → ta σ H Q
/-- a value of its own, or a known one -/
def RR (W : Wd) (Z : Addr → Prop) (H G : Hp) (φ : Nat → Hp) (v : V) (F : Hp) : Slot → Prop
  | .frz d => FR W G v d
  | .own d => OR W G F v d ∧ Dis G F ∧ (∀ i, Dis (φ i) F) ∧ Same F H ∧ ∀ b, F b ≠ none → Z b
  | .tre t => TR W G F v t ∧ Dis G F ∧ (∀ i, Dis (φ i) F) ∧ Same F H ∧ ∀ b, F b ≠ none → Z b
  | _ => False
def OKOk (W : Wd) (Z : Addr → Prop) (σ0 : L2.St) (G H : Hp) (σ : L2.St) (Q : VK) (Q' : Slot → Env → Prop) : Prop :=
  ∀ v s F H' G' env' φ', Ext Z G H G' H' → ER W Z σ0 H' G' σ env' φ' → RR W Z H' G' φ' v F s → Q' s env' → Q v H'
def PurO (W : Wd) (E : XK) (Xc : XP) (te : TE) (po : PTO) : Prop :=
  ∀ Z σ0 H G σ env φ Q Q', ER W Z σ0 H G σ env φ → XOk W Z G H E Xc → OKOk W Z σ0 G H σ Q Q' → po env Q' → te σ H Q
structure EndsOk (W : Wd) (Z : Addr → Prop) (σ0 : L2.St) (G H : Hp) (D : Ends) (D' : PEnds) : Prop where
  nx : ∀ σ' H' G' env' φ', Ext Z G H G' H' → ER W Z σ0 H' G' σ' env' φ' → D'.nx env' → D.nx σ' H'
  rt : ∀ v s F σ' H' G' env' φ', Ext Z G H G' H' → ER W Z σ0 H' G' σ' env' φ' → RR W Z H' G' φ' v F s → D'.rt s env' → D.rt v H'
  bk : ∀ σ' H' G' env' φ', Ext Z G H G' H' → ER W Z σ0 H' G' σ' env' φ' → D'.bk env' → D.bk σ' H'
  ct : ∀ σ' H' G' env' φ', Ext Z G H G' H' → ER W Z σ0 H' G' σ' env' φ' → D'.ct env' → D.ct σ' H'
def PurS (W : Wd) (E : XK) (Xc : XP) (ts : TS) (ps : PTS) : Prop :=
  ∀ Z σ0 H G σ env φ D D', ER W Z σ0 H G σ env φ → XOk W Z G H E Xc → EndsOk W Z σ0 G H D D' → ps D' env → ts D σ H
/-- a target -/
def PurG (W : Wd) (g : TG) (p : PTG) : Prop :=
  ∀ Z σ0 H G σ env φ v d (Q : L2.St → Hp → Prop) (Q' : Env → Prop), ER W Z σ0 H G σ env φ → FR W G v d → (∀ σ' env' φ', ER W Z σ0 H G σ' env' φ' → Q' env' → Q σ' H) → p d env Q' → g v σ H Q

section
variable {W : Wd} {E : XK} {Xc : XP} {ta tb tc te : TE} {pa pb pc pe : PTE} {tt tu : TT} {pt pu : PTT} {Z : Addr → Prop} {σ0 : L2.St} {H G H' G' : Hp} {σ : L2.St} {env : Env} {φ : Nat → Hp}
theorem VKOk.ext {Q : VK} {Q' : D → Env → Prop} (k : VKOk W Z σ0 G H σ Q Q') (t : Ext Z G H G' H') : VKOk W Z σ0 G' H' σ Q Q' := fun v d H2 G2 e2 p2 t2 r f q => k v d H2 G2 e2 p2 (t.trans t2) r f q
theorem EndsOk.ext {D : Ends} {D' : PEnds} (k : EndsOk W Z σ0 G H D D') (t : Ext Z G H G' H') : EndsOk W Z σ0 G' H' D D' :=
  ⟨fun a b c d e f => k.nx a b c d e (t.trans f), fun a b c d e f g h i => k.rt a b c d e f g h (t.trans i), fun a b c d e f => k.bk a b c d e (t.trans f), fun a b c d e f => k.ct a b c d e (t.trans f)⟩

/-! ### from looks -/
mutual
def flat : D → Bool
  | .non => true
  | .bl _ => true
  | .int _ => true
  | .str _ => true
  | .cls _ => true
  | .ty _ => true
  | .tup xs => flats xs
  | _ => false
def flats : List D → Bool
  | [] => true
  | x :: xs => flat x && flats xs
end
def hard : HO → Bool
  | .tup _ => false
  | .frz _ _ => false
  | _ => true
/-- without the tuples -/
def kpF (F : Hp) : Hp := fun b => match F b with
  | some o => if hard o = true then some o else none
  | none => none
theorem kpF_some {F : Hp} {b : Addr} {o : HO} (h : F b = some o) (ho : hard o = true) : kpF F b = some o := by unfold kpF; simp [h, ho]
theorem kpF_of {F : Hp} {b : Addr} {o : HO} (h : kpF F b = some o) : F b = some o ∧ hard o = true := by
  unfold kpF at h
  split at h
  · split at h
    · cases h; exact ⟨by assumption, by assumption⟩
    · cases h
  · cases h
theorem kpF_emp : kpF emp = emp := by funext b; simp [kpF, emp]
theorem kpF_del {F : Hp} {a : Addr} : kpF (del F a) = del (kpF F) a := by
  funext b
  unfold kpF del
  by_cases h : b = a <;> simp [h]
theorem kpF_un {A B : Hp} (d : Dis A B) : kpF (un A B) = un (kpF A) (kpF B) := by
  funext b
  rcases d b with h | h
  · have h1 : un A B b = B b := by unfold un; rw [h]
    have h2 : kpF A b = none := by unfold kpF; rw [h]
    have h3 : un (kpF A) (kpF B) b = kpF B b := by unfold un; rw [h2]
    rw [h3]; unfold kpF; rw [h1]
  · have h2 : kpF B b = none := by unfold kpF; rw [h]
    have h1 : un A B b = A b := by
      unfold un
      cases e : A b with
      | none => exact h
      | some o => rfl
    have h3 : un (kpF A) (kpF B) b = kpF A b := by
      unfold un
      cases e : kpF A b with
      | none => exact h2
      | some o => rfl
    rw [h3]; unfold kpF; rw [h1]
theorem kpF_dis {A B : Hp} (d : Dis A B) : Dis (kpF A) (kpF B) := (d.subL fun b o e => (kpF_of e).1).subR fun b o e => (kpF_of e).1
mutual
theorem TR.kp : ∀ {F : Hp} {v : V} {t : T}, TR W G F v t → TR W G (kpF F) v t
  | _, _, _, .leaf h => by rw [kpF_emp]; exact .leaf h
  | _, _, _, .lst h t => .lst (kpF_some h rfl) (by rw [← kpF_del]; exact TRs.kp t)
  | _, _, _, .dct h k t u l => .dct (kpF_some h rfl) k t (by rw [← kpF_del]; exact TRs.kp u) l
  | _, _, _, .obj h h2 e1 e2 t => .obj (kpF_some h rfl) (kpF_some h2 rfl) e1 e2 (by rw [← kpF_del, ← kpF_del]; exact TRs.kp t)
theorem TRs.kp : ∀ {F : Hp} {vs : List V} {ts : List T}, TRs W G F vs ts → TRs W G (kpF F) vs ts
  | _, _, _, .nil => by rw [kpF_emp]; exact .nil
  | _, _, _, .cons h t d => by rw [kpF_un d]; exact .cons (TR.kp h) (TRs.kp t) (kpF_dis d)
end
theorem OR.kp {F : Hp} {v : V} {d : D} (h : OR W G F v d) : OR W G (kpF F) v d := by
  cases h with
  | lst h t => exact .lst (kpF_some h rfl) t
  | hdl h => exact .hdl (W.res _ _ _ _ _ _ (fun b o e ho => kpF_some e (by cases o <;> first | rfl | exact ho.elim)) h)
theorem SlR.kp {x0 x : Option (Option V)} {F : Hp} : ∀ {s : Slot}, SlR W G x0 x F s → SlR W G x0 x (kpF F) s
  | .nil, h => h
  | .frz _, ⟨v, a, b⟩ => ⟨v, a, b⟩
  | .own _, ⟨v, a, b⟩ => ⟨v, a, b.kp⟩
  | .par _, ⟨v, a, c, b⟩ => ⟨v, a, c, b.kp⟩
  | .tre _, ⟨v, a, b⟩ => ⟨v, a, b.kp⟩
  | .ptr _, ⟨v, a, c, b⟩ => ⟨v, a, c, b.kp⟩
open Classical in
/-- what a look has made, without one's own -/
noncomputable def outF (φ : Nat → Hp) (Γ : Hp) : Hp := fun b => if ∃ i, kpF (φ i) b ≠ none then none else Γ b
theorem outF_of {φ : Nat → Hp} {Γ : Hp} {b : Addr} {o : HO} (h : outF φ Γ b = some o) : Γ b = some o ∧ ∀ i, kpF (φ i) b = none := by
  unfold outF at h
  split at h
  · cases h
  · rename_i n
    exact ⟨h, fun i => Classical.byContradiction fun z => n ⟨i, z⟩⟩
theorem outF_some {φ : Nat → Hp} {Γ : Hp} {b : Addr} {o : HO} (h : Γ b = some o) (n : ∀ i, kpF (φ i) b = none) : outF φ Γ b = some o := by
  unfold outF
  rw [if_neg (fun ⟨i, z⟩ => z (n i))]
  exact h
theorem ER.out {Γ' : Hp} (e : ER W Z σ0 H G σ env φ) (g : Grow (un G (allF φ)) H Γ' H') : Ext Z G H (outF φ Γ') H' ∧ ER W Z σ0 H' (outF φ Γ') σ env (fun i => kpF (φ i)) := by
  have sg : Same G (outF φ Γ') := fun b o h => outF_some (g.g b o (un_l b o h)) fun i => by
    cases z : kpF (φ i) b with
    | none => rfl
    | some u => rcases e.dg i b with w | w
                · rw [w] at h; cases h
                · rw [(kpF_of z).1] at w; cases w
  refine ⟨⟨sg, fun b o h => ?_, fun b o h _ => g.h b o h⟩, ⟨e.len, fun i s h => ((e.sl i s h).mono sg).kp, fun i j hij => kpF_dis (e.dis i j hij), fun i b => ?_, fun i b o h => g.h b o (e.sub i b o (kpF_of h).1), fun b o h => g.gh b o (outF_of h).1, fun b n => e.zn b (g.h.free n), fun i b h => ?_⟩⟩
  · obtain ⟨h1, h2⟩ := outF_of h
    rcases g.n b o h1 with h | h
    · rcases un_cases h with h | ⟨_, h⟩
      · exact .inl h
      · obtain ⟨i, hi⟩ := allF_some h
        exact .inr (e.zs i b (ne_none_of hi))
    · exact .inr (e.zn b h)
  · cases z : outF φ Γ' b with
    | none => exact .inl rfl
    | some o => exact .inr ((outF_of z).2 i)
  · cases z : kpF (φ i) b with
    | none => exact absurd z h
    | some o => exact e.zs i b (ne_none_of (kpF_of z).1)
/-- a tuple is nobody's own -/
theorem ER.softOut {Γ' : Hp} {b : Addr} {o : HO} (e : ER W Z σ0 H G σ env φ) (g : Grow (un G (allF φ)) H Γ' H') (h : Γ' b = some o) (ho : hard o = false) : outF φ Γ' b = some o := by
  refine outF_some h fun i => ?_
  cases z : kpF (φ i) b with
  | none => rfl
  | some u =>
    obtain ⟨z1, z2⟩ := kpF_of z
    have := g.g b u (un_r e.dAll b u (allF_same e.dis i b u z1))
    rw [h] at this
    cases this
    rw [ho] at z2; cases z2
mutual
theorem FR.flat {Γ' : Hp} (e : ER W Z σ0 H G σ env φ) (g : Grow (un G (allF φ)) H Γ' H') : ∀ {v : V} {d : D}, FR W Γ' v d → flat d = true → FR W (outF φ Γ') v d
  | _, _, .non, _ => .non
  | _, _, .bl b, _ => .bl b
  | _, _, .int b, _ => .int b
  | _, _, .str b, _ => .str b
  | _, _, .cls b, _ => .cls b
  | _, _, .ty b, _ => .ty b
  | _, _, .scr _, q => by simp [Pu.flat] at q
  | _, _, .exc _ _, q => by simp [Pu.flat] at q
  | _, _, .lst _ _, q => by simp [Pu.flat] at q
  | _, _, .dct _ _ _ _, q => by simp [Pu.flat] at q
  | _, _, .obj _ _ _ _ _, q => by simp [Pu.flat] at q
  | _, _, .tup h t, q => .tup (by
      rcases h with (h | ⟨o, h⟩) | h
      · exact .inl (.inl (e.softOut g h rfl))
      · exact .inl (.inr ⟨o, e.softOut g h rfl⟩)
      · exact .inr h) (FRs.flat e g t (by simpa [Pu.flat] using q))
theorem FRs.flat {Γ' : Hp} (e : ER W Z σ0 H G σ env φ) (g : Grow (un G (allF φ)) H Γ' H') : ∀ {vs : List V} {ds : List D}, FRs W Γ' vs ds → flats ds = true → FRs W (outF φ Γ') vs ds
  | _, _, .nil, _ => .nil
  | _, _, .cons h t, q => by
    have q' := Bool.and_eq_true_iff.mp (by simpa [Pu.flats] using q)
    exact .cons (FR.flat e g h q'.1) (FRs.flat e g t q'.2)
end
def eQ (pq : PQE) : PTE := fun env Q => pq env fun d => flat d = true ∧ Q d env
theorem pure_q {pq : PQE} (h : PurQ W E Xc te pq) : PurE W E Xc te (eQ pq) := by
  intro Z σ0 H G σ env φ Q Q' e x k q
  refine h _ H σ env _ _ e.vw (x.view e) (fun v d Γ' H' g f q => ?_) q
  obtain ⟨t, r⟩ := e.out g
  exact k v d H' _ env _ t r (f.flat e g q.1) q.2
def tQ (pq : PQT) : PTT := fun env Q => pq env fun b => Q b env
theorem purt_q {pq : PQT} (h : PurQT W E Xc tt pq) : PurT W E Xc tt (tQ pq) := by
  intro Z σ0 H G σ env φ Q Q' e x k q
  refine h _ H σ env _ _ e.vw (x.view e) (fun b Γ' H' g q => ?_) q
  exact k b H' G env φ (.growH g.h) (e.growH g.h) q

/-! ### names -/
theorem ER.setSlot {i : Nat} {s : Slot} {x : Option V} {F : Hp} (e : ER W Z σ0 H G σ env φ) (h : SlR W G (σ0[i]?) ((σ.set i x)[i]?) F s)
    (h1 : Dis G F) (h2 : ∀ j, j ≠ i → Dis (φ j) F) (h3 : Same F H) (h4 : ∀ b, F b ≠ none → Z b) : ER W Z σ0 H G (σ.set i x) (env.set i s) (fun j => if j = i then F else φ j) where
  len := ⟨by simp [e.len.1], by simp [e.len.2]⟩
  sl := fun j t hj => by
    by_cases hji : j = i
    · subst hji
      have ht : t = s := by
        rw [List.getElem?_set_self' ] at hj
        cases hq : env[j]? with
        | none => rw [hq] at hj; cases hj
        | some u => rw [hq] at hj; exact (Option.some.inj hj).symm
      subst ht
      simpa using h
    · rw [List.getElem?_set_ne (Ne.symm hji)] at hj ⊢
      simp only [if_neg hji]
      exact e.sl j t hj
  dis := fun j k hjk => by
    by_cases hj : j = i
    · by_cases hk : k = i
      · exact absurd (hj.trans hk.symm) hjk
      · simp only [if_pos hj, if_neg hk]
        exact (h2 k hk).symm
    · by_cases hk : k = i
      · simp only [if_neg hj, if_pos hk]
        exact h2 j hj
      · simp only [if_neg hj, if_neg hk]
        exact e.dis j k hjk
  dg := fun j => by
    by_cases hj : j = i
    · simp only [if_pos hj]; exact h1
    · simp only [if_neg hj]; exact e.dg j
  sub := fun j => by
    by_cases hj : j = i
    · simp only [if_pos hj]; exact h3
    · simp only [if_neg hj]; exact e.sub j
  gh := e.gh
  zn := e.zn
  zs := fun j b hb => by
    by_cases hj : j = i
    · simp only [if_pos hj] at hb; exact h4 b hb
    · simp only [if_neg hj] at hb; exact e.zs j b hb
/-- a slot's own thing is told to all -/
theorem ER.freezeF {i : Nat} {s : Slot} {v : V} {d : D} (e : ER W Z σ0 H G σ env φ) (h : env[i]? = some s) (a : σ[i]? = some (some v)) (f : FR W (un G (φ i)) v d) :
    Ext Z G H (un G (φ i)) H ∧ ER W Z σ0 H (un G (φ i)) σ (env.set i (.frz d)) (fun j => if j = i then emp else φ j) := by
  refine ⟨⟨un_l, fun x o q => ?_, fun _ _ q _ => q⟩, ?_⟩
  · rcases un_cases q with q | ⟨_, q⟩
    · exact .inl q
    · exact .inr (e.zs i x (ne_none_of q))
  · refine ⟨⟨by simp [e.len.1], e.len.2⟩, fun j t hj => ?_, fun j k hjk => ?_, fun j => ?_, fun j => ?_, un_sub e.gh (e.sub i), e.zn, fun j x hx => ?_⟩
    · by_cases hji : j = i
      · subst hji
        have ht : t = .frz d := by
          rw [List.getElem?_set_self' , h] at hj
          exact (Option.some.inj hj).symm
        subst ht
        exact ⟨v, a, f⟩
      · rw [List.getElem?_set_ne (Ne.symm hji)] at hj
        simp only [if_neg hji]
        exact (e.sl j t hj).mono un_l
    · by_cases hj : j = i
      · simp only [if_pos hj]; exact Dis.emp.symm
      · by_cases hk : k = i
        · simp only [if_neg hj, if_pos hk]; exact Dis.emp
        · simp only [if_neg hj, if_neg hk]; exact e.dis j k hjk
    · by_cases hj : j = i
      · simp only [if_pos hj]; exact Dis.emp
      · simp only [if_neg hj]; exact (e.dg j).un (e.dis i j (Ne.symm hj))
    · by_cases hj : j = i
      · simp only [if_pos hj]; exact fun _ _ z => nomatch z
      · simp only [if_neg hj]; exact e.sub j
    · by_cases hj : j = i
      · simp only [if_pos hj] at hx; exact absurd rfl hx
      · simp only [if_neg hj] at hx; exact e.zs j x hx
theorem ER.freeze {i : Nat} {d : D} (e : ER W Z σ0 H G σ env φ) (h : env[i]? = some (.own d)) (hs : d.sol = true) :
    ∃ v, σ[i]? = some (some v) ∧ FR W (un G (φ i)) v d ∧ Ext Z G H (un G (φ i)) H ∧ ER W Z σ0 H (un G (φ i)) σ (env.set i (.frz d)) (fun j => if j = i then emp else φ j) := by
  obtain ⟨v, a, b⟩ := e.sl i _ h
  have f := b.freeze hs (e.dg i)
  exact ⟨v, a, f, e.freezeF h a f⟩
theorem ER.freezeT {i : Nat} {t : T} (e : ER W Z σ0 H G σ env φ) (h : env[i]? = some (.tre t)) :
    ∃ v, σ[i]? = some (some v) ∧ FR W (un G (φ i)) v t.er ∧ Ext Z G H (un G (φ i)) H ∧ ER W Z σ0 H (un G (φ i)) σ (env.set i (.frz t.er)) (fun j => if j = i then emp else φ j) := by
  obtain ⟨v, a, b⟩ := e.sl i _ h
  have f := b.freeze (e.dg i)
  exact ⟨v, a, f, e.freezeF h a f⟩
/-- a slot's value, told to all; the slots behind it -/
def lkE : Option Slot → Option D
  | some (.frz d) => some d
  | some (.own d) => if d.sol = true then some d else none
  | some (.par _) => none
  | some (.tre t) => some t.er
  | some (.ptr _) => none
  | some .nil => none
  | none => none
def thE (env : Env) (i : Nat) : Option Slot → Env
  | some (.own d) => env.set i (.frz d)
  | some (.frz _) => env
  | some (.par _) => env
  | some (.tre t) => env.set i (.frz t.er)
  | some (.ptr _) => env
  | some .nil => env
  | none => env
def eVar (i : Nat) : PTE := fun env Q => ∃ d, lkE (env[i]?) = some d ∧ Q d (thE env i (env[i]?))
theorem pure_var {i : Nat} : PurE W E Xc (tVar i) (eVar i) := by
  intro Z σ0 H G σ env φ Q Q' e x k ⟨d0, hl, q⟩
  unfold lkE at hl
  split at hl
  · rename_i d h
    cases hl
    rw [h] at q
    obtain ⟨v, a, f⟩ := e.sl i _ h
    exact ⟨v, a, k v d0 H G env φ .refl e f q⟩
  · rename_i d h
    split at hl
    · rename_i hs
      cases hl
      rw [h] at q
      obtain ⟨v, a, f, t, e2⟩ := e.freeze h hs
      exact ⟨v, a, k v d0 H _ _ _ t e2 f q⟩
    · cases hl
  · cases hl
  · rename_i t h
    cases hl
    rw [h] at q
    obtain ⟨v, a, f, t, e2⟩ := e.freezeT h
    exact ⟨v, a, k v _ H _ _ _ t e2 f q⟩
  · cases hl
  · cases hl
  · cases hl
def eC (d : D) : PTE := fun env Q => Q d env
theorem pure_C {v : V} {d : D} (h : ∀ G, FR W G v d) : PurE W E Xc (tC v) (eC d) := fun Z σ0 H G σ env φ Q Q' e x k q => k v d H G env φ .refl e (h _) q
theorem pure_int {i : Int} : PurE W E Xc (tC (.int i)) (eC (.int i)) := pure_C fun _ => .int i
theorem pure_str {i : Str} : PurE W E Xc (tC (.str i)) (eC (.str i)) := pure_C fun _ => .str i
theorem pure_bl {i : Bool} : PurE W E Xc (tC (.bl i)) (eC (.bl i)) := pure_C fun _ => .bl i
theorem pure_ty {i : String} : PurE W E Xc (tC (.ty i)) (eC (.ty i)) := pure_C fun _ => .ty i
theorem pure_cls {i : Addr} : PurE W E Xc (tC (.ref i)) (eC (.cls i)) := pure_C fun _ => .cls i
theorem pure_non : PurE W E Xc (tC .non) (eC .non) := pure_C fun _ => .non
/-- things that only make new things -/
theorem ER.grow (e : ER W Z σ0 H G σ env φ) (g : Grow G H G' H') : ER W Z σ0 H' G' σ env φ ∧ Ext Z G H G' H' := by
  refine ⟨⟨e.len, fun i s h => (e.sl i s h).mono g.g, e.dis, fun i b => ?_, fun i => (e.sub i).trans g.h, g.gh, fun b n => e.zn b (g.h.free n), e.zs⟩, g.g, fun b o h => (g.n b o h).imp id (e.zn b), fun b o h _ => g.h b o h⟩
  cases h : G' b with
  | none => exact .inl rfl
  | some o =>
    rcases g.n b o h with q | q
    · rcases e.dg i b with z | z
      · rw [z] at q; cases q
      · exact .inr z
    · exact .inr ((e.sub i).free q)
def eOp (p : D → D → (D → Prop) → Prop) (pa pb : PTE) : PTE := fun env Q => pa env fun x e1 => pb e1 fun y e2 => p x y fun d => Q d e2
theorem pure_op {r : R2} {p : D → D → (D → Prop) → Prop} (hr : PurR2 W r p) (ha : PurE W E Xc ta pa) (hb : PurE W E Xc tb pb) : PurE W E Xc (tOp r ta tb) (eOp p pa pb) := by
  intro Z σ0 H G σ env φ Q Q' e x k h
  refine ha Z σ0 H G σ env φ _ _ e x (fun v1 d1 H1 G1 e1 p1 t1 r1 f1 q1 => ?_) h
  refine hb Z σ0 H1 G1 σ e1 p1 _ _ r1 (x.ext t1) (fun v2 d2 H2 G2 e2 p2 t2 r2 f2 q2 => ?_) q1
  refine hr G2 H2 v1 v2 d1 d2 _ _ r2.gh (f1.mono t2.g) f2 (fun v3 d3 G3 H3 g3 f3 q3 => ?_) q2
  obtain ⟨r3, t3⟩ := r2.grow g3
  exact k v3 d3 H3 G3 e2 p2 ((t1.trans t2).trans t3) r3 f3 q3
def eUn (p : D → (D → Prop) → Prop) (pa : PTE) : PTE := fun env Q => pa env fun x e1 => p x fun d => Q d e1
theorem pure_un {r : V → Hp → VK → Prop} {p : D → (D → Prop) → Prop} (hr : PurR1 W r p) (ha : PurE W E Xc ta pa) : PurE W E Xc (tUn r ta) (eUn p pa) := by
  intro Z σ0 H G σ env φ Q Q' e x k h
  refine ha Z σ0 H G σ env φ _ _ e x (fun v1 d1 H1 G1 e1 p1 t1 r1 f1 q1 => ?_) h
  refine hr G1 H1 v1 d1 _ _ r1.gh f1 (fun v3 d3 G3 H3 g3 f3 q3 => ?_) q1
  obtain ⟨r3, t3⟩ := r1.grow g3
  exact k v3 d3 H3 G3 e1 p1 (t1.trans t3) r3 f3 q3
def tB' (pa : PTE) : PTT := fun env Q => pa env fun d e1 => asB (fun c => Q c e1) d
theorem purt_B (ha : PurE W E Xc ta pa) : PurT W E Xc (tB ta) (tB' pa) := by
  intro Z σ0 H G σ env φ Q Q' e x k h
  refine ha Z σ0 H G σ env φ _ _ e x (fun v1 d1 H1 G1 e1 p1 t1 r1 f1 q1 => ?_) h
  obtain ⟨c, ec, _, q⟩ := asB_of f1 q1
  exact ⟨c, ec, k c H1 G1 e1 p1 t1 r1 q⟩
theorem purt_test (ha : PurE W E Xc ta pa) : PurT W E Xc (tTest ta) (tB' pa) := purt_B ha
def eIf (t : PTT) (pa pb : PTE) : PTE := fun env Q => t env fun c e1 => if c = true then pa e1 Q else pb e1 Q
theorem pure_if (h : PurT W E Xc tt pt) (ha : PurE W E Xc ta pa) (hb : PurE W E Xc tb pb) : PurE W E Xc (tIf tt ta tb) (eIf pt pa pb) := by
  intro Z σ0 H G σ env φ Q Q' e x k h0
  refine h Z σ0 H G σ env φ _ _ e x (fun b H1 G1 e1 p1 t1 r1 q1 => ?_) h0
  cases b with
  | true =>
    rw [if_pos rfl] at q1 ⊢
    exact ha Z σ0 H1 G1 σ e1 p1 _ _ r1 (x.ext t1) (k.ext t1) q1
  | false =>
    rw [if_neg Bool.false_ne_true] at q1 ⊢
    exact hb Z σ0 H1 G1 σ e1 p1 _ _ r1 (x.ext t1) (k.ext t1) q1
/-! ### arguments, displays, calls of builtins -/
def eNil : PTA := fun env Q => Q [] env
def eCons (p : PTE) (r : PTA) : PTA := fun env Q => p env fun d e1 => r e1 fun ds e2 => Q (d :: ds) e2
theorem pura_nil : PurA W E Xc tNil eNil := fun Z σ0 H G σ env φ Q Q' e x k h => k [] [] H G env φ .refl e .nil h
theorem pura_cons {t : TA} {p : PTA} (h1 : PurE W E Xc ta pa) (h2 : PurA W E Xc t p) : PurA W E Xc (tCons ta t) (eCons pa p) := by
  intro Z σ0 H G σ env φ Q Q' e x k h
  refine h1 Z σ0 H G σ env φ _ _ e x (fun v1 d1 H1 G1 e1 p1 t1 r1 f1 q1 => ?_) h
  refine h2 Z σ0 H1 G1 σ e1 p1 _ _ r1 (x.ext t1) (fun vs ds H2 G2 e2 p2 t2 r2 f2 q2 => ?_) q1
  exact k _ _ H2 G2 e2 p2 (t1.trans t2) r2 (.cons (f1.mono t2.g) f2) q2
def eCB (p : List D → (D → Prop) → Prop) (a : PTA) : PTE := fun env Q => a env fun ds e1 => p ds fun d => Q d e1
theorem pure_CB {r : List V → Hp → VK → Prop} {p : List D → (D → Prop) → Prop} {t : TA} {a : PTA} (hr : PurC W r p) (ha : PurA W E Xc t a) : PurE W E Xc (tCB r t) (eCB p a) := by
  intro Z σ0 H G σ env φ Q Q' e x k h
  refine ha Z σ0 H G σ env φ _ _ e x (fun vs ds H1 G1 e1 p1 t1 r1 f1 q1 => ?_) h
  refine hr G1 H1 vs ds _ _ r1.gh f1 (fun v3 d3 G3 H3 g3 f3 q3 => ?_) q1
  obtain ⟨r3, t3⟩ := r1.grow g3
  exact k v3 d3 H3 G3 e1 p1 (t1.trans t3) r3 f3 q3
def eTup (a : PTA) : PTE := fun env Q => a env fun ds e1 => ds.length ≤ sizeLine ∧ Q (.tup ds) e1
theorem pure_tup {t : TA} {a : PTA} (ha : PurA W E Xc t a) : PurE W E Xc (tTup t) (eTup a) := by
  intro Z σ0 H G σ env φ Q Q' e x k h
  refine ha Z σ0 H G σ env φ _ _ e x (fun vs ds H1 G1 e1 p1 t1 r1 f1 q1 => ⟨by rw [f1.length]; exact q1.1, fun p hp => ?_⟩) h
  have g2 := Grow.new (o := .tup vs) r1.gh hp
  obtain ⟨r3, t3⟩ := r1.grow g2
  exact k _ _ _ _ _ _ (t1.trans t3) r3 (.tup (.inl (.inl upd_same)) (f1.mono g2.g)) q1.2
def eLst (a : PTA) : PTE := fun env Q => a env fun ds e1 => ds.length ≤ sizeLine ∧ Q (.lst ds) e1
theorem pure_lst {t : TA} {a : PTA} (ha : PurA W E Xc t a) : PurE W E Xc (tLst t) (eLst a) := by
  intro Z σ0 H G σ env φ Q Q' e x k h
  refine ha Z σ0 H G σ env φ _ _ e x (fun vs ds H1 G1 e1 p1 t1 r1 f1 q1 => ⟨by rw [f1.length]; exact q1.1, fun p hp => ?_⟩) h
  have g2 := Grow.new (o := .lst vs) r1.gh hp
  obtain ⟨r3, t3⟩ := r1.grow g2
  exact k _ _ _ _ _ _ (t1.trans t3) r3 (.lst upd_same (f1.mono g2.g)) q1.2
/-! ### values that may be one's own -/
def oE (pe : PTE) : PTO := fun env Q => pe env fun d e1 => Q (.frz d) e1
theorem puro_e (h : PurE W E Xc te pe) : PurO W E Xc te (oE pe) := by
  intro Z σ0 H G σ env φ Q Q' e x k q
  exact h Z σ0 H G σ env φ _ _ e x (fun v d H' G' env' φ' t r f q => k v (.frz d) emp H' G' env' φ' t r f q) q
/-- a new list of one's own -/
theorem ER.ownNew {p : Addr} {o : HO} (e : ER W Z σ0 H G σ env φ) (hp : H p = none) :
    ER W Z σ0 (upd H p o) G σ env φ ∧ Ext Z G H G (upd H p o) ∧ Dis G (one p o) ∧ (∀ i, Dis (φ i) (one p o)) ∧ Same (one p o) (upd H p o) ∧ ∀ b, one p o b ≠ none → Z b := by
  refine ⟨e.growH (same_upd hp), .growH (same_upd hp), fun b => ?_, fun i b => ?_, fun b u h => ?_, fun b h => ?_⟩
  · by_cases hb : b = p
    · subst hb; exact .inl (e.gh.free hp)
    · exact .inr (one_ne hb)
  · by_cases hb : b = p
    · subst hb; exact .inl ((e.sub i).free hp)
    · exact .inr (one_ne hb)
  · by_cases hb : b = p
    · subst hb
      rw [one_same] at h
      rw [upd_same]; exact h
    · rw [one_ne hb] at h; cases h
  · by_cases hb : b = p
    · subst hb; exact e.zn b hp
    · exact absurd (one_ne hb) h
def oLst (a : PTA) : PTO := fun env Q => a env fun ds e1 => ds.length ≤ sizeLine ∧ Q (.own (.lst ds)) e1
theorem puro_lst {t : TA} {a : PTA} (ha : PurA W E Xc t a) : PurO W E Xc (tLst t) (oLst a) := by
  intro Z σ0 H G σ env φ Q Q' e x k h
  refine ha Z σ0 H G σ env φ _ _ e x (fun vs ds H1 G1 e1 p1 t1 r1 f1 q1 => ⟨by rw [f1.length]; exact q1.1, fun p hp => ?_⟩) h
  obtain ⟨r2, t2, d1, d2, d3, d4⟩ := r1.ownNew (o := .lst vs) hp
  exact k _ (.own (.lst ds)) _ _ _ _ _ (t1.trans t2) r2 ⟨.lst one_same f1, d1, d2, d3, d4⟩ q1.2
/-- a name's own thing is handed on -/
def mvS : Option Slot → Option Slot
  | some (.frz d) => some (.frz d)
  | some (.own d) => some (.own d)
  | some (.par _) => none
  | some (.tre t) => some (.tre t)
  | some (.ptr _) => none
  | some .nil => none
  | none => none
def mvE (env : Env) (i : Nat) : Option Slot → Env
  | some (.own _) => env.set i .nil
  | some (.frz _) => env
  | some (.par _) => env
  | some (.tre _) => env.set i .nil
  | some (.ptr _) => env
  | some .nil => env
  | none => env
def oMove (i : Nat) : PTO := fun env Q => ∃ s, mvS (env[i]?) = some s ∧ Q s (mvE env i (env[i]?))
theorem ER.moveF {i : Nat} {s : Slot} (e : ER W Z σ0 H G σ env φ) (h : env[i]? = some s) :
    (Dis G (φ i) ∧ (∀ j, Dis (if j = i then emp else φ j) (φ i)) ∧ Same (φ i) H ∧ ∀ b, φ i b ≠ none → Z b) ∧ ER W Z σ0 H G σ (env.set i .nil) (fun j => if j = i then emp else φ j) := by
  refine ⟨⟨e.dg i, fun j => ?_, e.sub i, e.zs i⟩, ?_⟩
  · by_cases hj : j = i
    · simp only [if_pos hj]; exact Dis.emp.symm
    · simp only [if_neg hj]; exact e.dis j i hj
  · refine ⟨⟨by simp [e.len.1], e.len.2⟩, fun j t hj => ?_, fun j k hjk => ?_, fun j => ?_, fun j => ?_, e.gh, e.zn, fun j x hx => ?_⟩
    · by_cases hji : j = i
      · subst hji
        have ht : t = .nil := by
          rw [List.getElem?_set_self' , h] at hj
          exact (Option.some.inj hj).symm
        subst ht
        exact trivial
      · rw [List.getElem?_set_ne (Ne.symm hji)] at hj
        simp only [if_neg hji]
        exact e.sl j t hj
    · by_cases hj : j = i
      · simp only [if_pos hj]; exact Dis.emp.symm
      · by_cases hk : k = i
        · simp only [if_neg hj, if_pos hk]; exact Dis.emp
        · simp only [if_neg hj, if_neg hk]; exact e.dis j k hjk
    · by_cases hj : j = i
      · simp only [if_pos hj]; exact Dis.emp
      · simp only [if_neg hj]; exact e.dg j
    · by_cases hj : j = i
      · simp only [if_pos hj]; exact fun _ _ z => nomatch z
      · simp only [if_neg hj]; exact e.sub j
    · by_cases hj : j = i
      · simp only [if_pos hj] at hx; exact absurd rfl hx
      · simp only [if_neg hj] at hx; exact e.zs j x hx
theorem ER.move {i : Nat} {d : D} (e : ER W Z σ0 H G σ env φ) (h : env[i]? = some (.own d)) :
    ∃ v, σ[i]? = some (some v) ∧ RR W Z H G (fun j => if j = i then emp else φ j) v (φ i) (.own d) ∧ ER W Z σ0 H G σ (env.set i .nil) (fun j => if j = i then emp else φ j) := by
  obtain ⟨v, a, b⟩ := e.sl i _ h
  obtain ⟨q, r⟩ := e.moveF h
  exact ⟨v, a, ⟨b, q⟩, r⟩
theorem ER.moveT {i : Nat} {t : T} (e : ER W Z σ0 H G σ env φ) (h : env[i]? = some (.tre t)) :
    ∃ v, σ[i]? = some (some v) ∧ RR W Z H G (fun j => if j = i then emp else φ j) v (φ i) (.tre t) ∧ ER W Z σ0 H G σ (env.set i .nil) (fun j => if j = i then emp else φ j) := by
  obtain ⟨v, a, b⟩ := e.sl i _ h
  obtain ⟨q, r⟩ := e.moveF h
  exact ⟨v, a, ⟨b, q⟩, r⟩
theorem puro_move {i : Nat} : PurO W E Xc (tVar i) (oMove i) := by
  intro Z σ0 H G σ env φ Q Q' e x k ⟨s0, hl, q⟩
  unfold mvS at hl
  split at hl
  · rename_i d h
    cases hl
    rw [h] at q
    obtain ⟨v, a, f⟩ := e.sl i _ h
    exact ⟨v, a, k v (.frz d) emp H G env φ .refl e f q⟩
  · rename_i d h
    cases hl
    rw [h] at q
    obtain ⟨v, a, f, r⟩ := e.move h
    exact ⟨v, a, k v _ _ H G _ _ .refl r f q⟩
  · cases hl
  · rename_i t h
    cases hl
    rw [h] at q
    obtain ⟨v, a, f, r⟩ := e.moveT h
    exact ⟨v, a, k v _ _ H G _ _ .refl r f q⟩
  · cases hl
  · cases hl
  · cases hl
def oIf (t : PTT) (pa pb : PTO) : PTO := fun env Q => t env fun c e1 => if c = true then pa e1 Q else pb e1 Q
theorem puro_if {pa pb : PTO} (h : PurT W E Xc tt pt) (ha : PurO W E Xc ta pa) (hb : PurO W E Xc tb pb) : PurO W E Xc (tIf tt ta tb) (oIf pt pa pb) := by
  intro Z σ0 H G σ env φ Q Q' e x k h0
  refine h Z σ0 H G σ env φ _ _ e x (fun b H1 G1 e1 p1 t1 r1 q1 => ?_) h0
  cases b with
  | true =>
    rw [if_pos rfl] at q1 ⊢
    exact ha Z σ0 H1 G1 σ e1 p1 _ _ r1 (x.ext t1) (fun v s F H2 G2 e2 p2 t2 => k v s F H2 G2 e2 p2 (t1.trans t2)) q1
  | false =>
    rw [if_neg Bool.false_ne_true] at q1 ⊢
    exact hb Z σ0 H1 G1 σ e1 p1 _ _ r1 (x.ext t1) (fun v s F H2 G2 e2 p2 t2 => k v s F H2 G2 e2 p2 (t1.trans t2)) q1
end
end Pu

set_option Elab.async false
set_option linter.all false
set_option maxRecDepth 100000
namespace Pu
open PySem PySem.Spec L2

section
variable {W : Wd} {E : XK} {Xc : XP} {ta tb tc te : TE} {pa pb pc pe : PTE} {tt : TT} {pt : PTT} {ts tu : TS} {ps pu : PTS} {Z : Addr → Prop} {σ0 : L2.St} {H G H' G' : Hp} {σ : L2.St} {env : Env} {φ : Nat → Hp}

/-! ### statements -/
def sNext : PTS := fun D env => D.nx env
def sSeq (p u : PTS) : PTS := fun D env => p { D with nx := u D } env
theorem purs_next : PurS W E Xc tNext sNext := fun Z σ0 H G σ env φ D D' e x k h => k.nx σ H G env φ .refl e h
theorem purs_seq (h1 : PurS W E Xc ts ps) (h2 : PurS W E Xc tu pu) : PurS W E Xc (tSeq ts tu) (sSeq ps pu) := by
  intro Z σ0 H G σ env φ D D' e x k h
  refine h1 Z σ0 H G σ env φ { D with nx := tu D } { D' with nx := pu D' } e x ⟨fun σ' H' G' env' φ' t r q => ?_, k.rt, k.bk, k.ct⟩ h
  exact h2 Z σ0 H' G' σ' env' φ' D D' r (x.ext t) (k.ext t) q
/-- by what holds between -/
def midOk (M : Env → Prop) (u : PTS) (L : PEnds) : Prop := ∀ e, M e → u L e
def sMid (t u : PTS) : PTS := fun D env => ∃ M : Env → Prop, t { D with nx := M } env ∧ midOk M u D
theorem purs_mid (h1 : PurS W E Xc ts ps) (h2 : PurS W E Xc tu pu) : PurS W E Xc (tSeq ts tu) (sMid ps pu) := by
  intro Z σ0 H G σ env φ D D' e x k ⟨M, h, hm⟩
  refine h1 Z σ0 H G σ env φ { D with nx := tu D } { D' with nx := M } e x ⟨fun σ' H' G' env' φ' t r q => ?_, k.rt, k.bk, k.ct⟩ h
  exact h2 Z σ0 H' G' σ' env' φ' D D' r (x.ext t) (k.ext t) (hm _ q)
def sBreak : PTS := fun D env => D.bk env
def sCont : PTS := fun D env => D.ct env
theorem purs_break : PurS W E Xc tBreak sBreak := fun Z σ0 H G σ env φ D D' e x k h => k.bk σ H G env φ .refl e h
theorem purs_cont : PurS W E Xc tCont sCont := fun Z σ0 H G σ env φ D D' e x k h => k.ct σ H G env φ .refl e h
def sDrop (pe : PTE) : PTS := fun D env => pe env fun _ e1 => D.nx e1
theorem purs_drop (h : PurE W E Xc te pe) : PurS W E Xc (tDrop te) (sDrop pe) := by
  intro Z σ0 H G σ env φ D D' e x k q
  exact h Z σ0 H G σ env φ _ _ e x (fun v d H1 G1 e1 p1 t1 r1 f1 q1 => k.nx σ H1 G1 e1 p1 t1 r1 q1) q
def sRet (po : PTO) : PTS := fun D env => po env D.rt
theorem purs_ret {po : PTO} (h : PurO W E Xc te po) : PurS W E Xc (tRet te) (sRet po) := by
  intro Z σ0 H G σ env φ D D' e x k q
  exact h Z σ0 H G σ env φ _ _ e x (fun v s F H1 G1 e1 p1 t1 r1 f1 q1 => k.rt v s F σ H1 G1 e1 p1 t1 r1 f1 q1) q
def sRetN : PTS := fun D env => D.rt (.frz .non) env
theorem purs_retN : PurS W E Xc tRetN sRetN := fun Z σ0 H G σ env φ D D' e x k h => k.rt .non (.frz .non) emp σ H G env φ .refl e .non h
def sIf (t : PTT) (p u : PTS) : PTS := fun D env => t env fun c e1 => if c = true then p D e1 else u D e1
theorem purs_if (h : PurT W E Xc tt pt) (h1 : PurS W E Xc ts ps) (h2 : PurS W E Xc tu pu) : PurS W E Xc (tIfS tt ts tu) (sIf pt ps pu) := by
  intro Z σ0 H G σ env φ D D' e x k q
  refine h Z σ0 H G σ env φ _ _ e x (fun b H1 G1 e1 p1 t1 r1 q1 => ?_) q
  cases b with
  | true =>
    rw [if_pos rfl] at q1 ⊢
    exact h1 Z σ0 H1 G1 σ e1 p1 D D' r1 (x.ext t1) (k.ext t1) q1
  | false =>
    rw [if_neg Bool.false_ne_true] at q1 ⊢
    exact h2 Z σ0 H1 G1 σ e1 p1 D D' r1 (x.ext t1) (k.ext t1) q1
def sNever : PTS := fun _ _ => False
theorem purs_never : PurS W E Xc tNever sNever := fun Z σ0 H G σ env φ D D' e x k h => h
/-- a slot that may be stored to -/
def free (env : Env) (i : Nat) : Prop := match env[i]? with
  | some (.par _) => False
  | some (.ptr _) => False
  | some _ => True
  | none => False
theorem ER.store {i : Nat} {v : V} {d : D} (e : ER W Z σ0 H G σ env φ) (hf : free env i) (f : FR W G v d) :
    ER W Z σ0 H G (σ.set i (some v)) (env.set i (.frz d)) (fun j => if j = i then emp else φ j) := by
  have hi : i < σ.length := by
    unfold free at hf
    rw [e.len.1]
    cases h : env[i]? with
    | none => rw [h] at hf; exact hf.elim
    | some s => exact (List.getElem?_eq_some_iff.mp h).1
  exact e.setSlot (s := .frz d) ⟨v, by rw [List.getElem?_set_self hi], f⟩ Dis.emp (fun _ _ => Dis.emp) (fun _ _ z => nomatch z) (fun _ z => absurd rfl z)
theorem ER.storeR {i : Nat} {v : V} {s : Slot} {F : Hp} (e : ER W Z σ0 H G σ env φ) (hf : free env i) (f : RR W Z H G φ v F s) :
    ∃ φ', ER W Z σ0 H G (σ.set i (some v)) (env.set i s) φ' := by
  have hi : i < σ.length := by
    unfold free at hf
    rw [e.len.1]
    cases h : env[i]? with
    | none => rw [h] at hf; exact hf.elim
    | some s => exact (List.getElem?_eq_some_iff.mp h).1
  cases s with
  | frz d => exact ⟨_, e.store hf f⟩
  | own d =>
    obtain ⟨a, b, c, d1, d2⟩ := f
    exact ⟨_, e.setSlot (s := .own d) (F := F) ⟨v, by rw [List.getElem?_set_self hi], a⟩ b (fun j _ => c j) d1 d2⟩
  | tre t =>
    obtain ⟨a, b, c, d1, d2⟩ := f
    exact ⟨_, e.setSlot (s := .tre t) (F := F) ⟨v, by rw [List.getElem?_set_self hi], a⟩ b (fun j _ => c j) d1 d2⟩
  | ptr _ => exact f.elim
  | nil => exact f.elim
  | par _ => exact f.elim
def gN (i : Nat) : PTG := fun d env Q => free env i ∧ Q (env.set i (.frz d))
theorem purg_name {i : Nat} : PurG W (gName i) (gN i) := by
  intro Z σ0 H G σ env φ v d Q Q' e f k h
  exact k _ _ _ (e.store h.1 f) h.2
def PurGs (W : Wd) (g : TGs) (p : PTGs) : Prop :=
  ∀ Z σ0 H G σ env φ vs ds (Q : L2.St → Hp → Prop) (Q' : Env → Prop), ER W Z σ0 H G σ env φ → FRs W G vs ds → (∀ σ' env' φ', ER W Z σ0 H G σ' env' φ' → Q' env' → Q σ' H) → p ds env Q' → g vs σ H Q
def gsNil : PTGs := fun ds env Q => ds = [] ∧ Q env
def gsCons (p : PTG) (r : PTGs) : PTGs := fun ds env Q => match ds with
  | d :: ds => p d env fun e1 => r ds e1 Q
  | [] => False
theorem purgs_nil : PurGs W gNil gsNil := by
  intro Z σ0 H G σ env φ vs ds Q Q' e f k h
  obtain ⟨rfl, h⟩ := h
  cases f
  exact ⟨rfl, k _ _ _ e h⟩
theorem purgs_cons {g : TG} {gs : TGs} {p : PTG} {r : PTGs} (h1 : PurG W g p) (h2 : PurGs W gs r) : PurGs W (gCons g gs) (gsCons p r) := by
  intro Z σ0 H G σ env φ vs ds Q Q' e f k h
  cases f with
  | nil => exact h.elim
  | @cons v vs d ds f1 f2 =>
    refine ⟨v, vs, rfl, ?_⟩
    exact h1 Z σ0 H G σ env φ v d _ _ e f1 (fun σ1 e1 p1 r1 q1 => h2 Z σ0 H G σ1 e1 p1 vs ds Q Q' r1 f2 k q1) h
def gT (n : Nat) (p : PTGs) : PTG := fun d env Q => match d with
  | .tup ds => ds.length = n ∧ p ds env Q
  | _ => False
theorem purg_tup {gs : TGs} {p : PTGs} {n : Nat} (h : PurGs W gs p) : PurG W (gTup W.K n gs) (gT n p) := by
  intro Z σ0 H G σ env φ v d Q Q' e f k q
  cases f with
  | tup hs t => exact ⟨_, _, rfl, sqt_mono e.gh hs, by rw [t.length]; exact q.1, h Z σ0 H G σ env φ _ _ Q Q' e t k q.2⟩
  | _ => exact q.elim
/-- x = e -/
def sSet (i : Nat) (po : PTO) : PTS := fun D env => po env fun s e1 => free e1 i ∧ D.nx (e1.set i s)
theorem purs_set {i : Nat} {po : PTO} (h : PurO W E Xc te po) : PurS W E Xc (tAsg te (gName i)) (sSet i po) := by
  intro Z σ0 H G σ env φ D D' e x k q
  refine h Z σ0 H G σ env φ _ _ e x (fun v s F H1 G1 e1 p1 t1 r1 f1 q1 => ?_) q
  obtain ⟨φ', r2⟩ := r1.storeR q1.1 f1
  exact k.nx _ H1 G1 _ φ' t1 r2 q1.2
/-- a, b = e -/
def sAsg (g : PTG) (pe : PTE) : PTS := fun D env => pe env fun d e1 => g d e1 D.nx
theorem purs_asg {g : TG} {p : PTG} (hg : PurG W g p) (h : PurE W E Xc te pe) : PurS W E Xc (tAsg te g) (sAsg p pe) := by
  intro Z σ0 H G σ env φ D D' e x k q
  refine h Z σ0 H G σ env φ _ _ e x (fun v d H1 G1 e1 p1 t1 r1 f1 q1 => ?_) q
  exact hg Z σ0 H1 G1 σ e1 p1 v d _ _ r1 f1 (fun σ' env' φ' r q => k.nx σ' H1 G1 env' φ' t1 r q) q1
/-- a, b = e1, e2 -/
def sPar (i j : Nat) (pa : PTA) : PTS := fun D env => pa env fun ds e1 => match ds with
  | [d, e] => i ≠ j ∧ free e1 i ∧ free e1 j ∧ D.nx ((e1.set i (.frz d)).set j (.frz e))
  | _ => False
theorem free_set {env : Env} {i j : Nat} {s : Slot} (h : i ≠ j) (hf : free env j) : free (env.set i s) j := by
  unfold free at hf ⊢
  rw [List.getElem?_set_ne h]
  exact hf
theorem purs_par {i j : Nat} {t : TA} {pa : PTA} (h : PurA W E Xc t pa) : PurS W E Xc (tPar i j t) (sPar i j pa) := by
  intro Z σ0 H G σ env φ D D' e x k q
  refine h Z σ0 H G σ env φ _ _ e x (fun vs ds H1 G1 e1 p1 t1 r1 f1 q1 => ?_) q
  match ds, q1 with
  | [d, d2], q1 =>
    obtain ⟨v, u, rfl, g1, g2⟩ := frs2 f1
    obtain ⟨hij, hi, hj, q1⟩ := q1
    exact ⟨v, u, rfl, k.nx _ H1 G1 _ _ t1 ((r1.store hi g1).store (free_set hij hj) g2) q1⟩
/-- x += e of ints -/
def lkF : Option Slot → Option D
  | some (.frz d) => some d
  | some (.own _) => none
  | some (.par _) => none
  | some (.tre _) => none
  | some (.ptr _) => none
  | some .nil => none
  | none => none
def sAug (i : Nat) (p : D → D → (D → Prop) → Prop) (pe : PTE) : PTS := fun D env => ∃ d0, lkF (env[i]?) = some d0 ∧ pe env fun d e1 => p d0 d fun z => free e1 i ∧ D.nx (e1.set i (.frz z))
theorem purs_aug {i : Nat} {f : Int → Int → Int} (h : PurE W E Xc te pe) : PurS W E Xc (tAug i te (ipI f)) (sAug i (pI0 fun a b => .int (f a b)) pe) := by
  intro Z σ0 H G σ env φ D D' e x k ⟨d0, hl, q⟩
  have h0 : env[i]? = some (.frz d0) := by
    unfold lkF at hl
    split at hl <;> cases hl
    assumption
  obtain ⟨v0, a, f0⟩ := e.sl i _ h0
  refine ⟨v0, a, h Z σ0 H G σ env φ _ _ e x (fun v d H1 G1 e1 p1 t1 r1 f1 q1 => ?_) q⟩
  obtain ⟨m, n, ea, eb, q2⟩ := pI0_of (f0.mono t1.g) f1 q1
  exact ⟨m, n, ea, eb, k.nx _ H1 G1 _ _ t1 (r1.store q2.1 (.int _)) q2.2⟩

/-! ### loops -/
/-- what is walked: the items, as they stand through the loop -/
def IT (W : Wd) (G : Hp) (J : It) (ds : List D) : Prop :=
  (∀ i H, Same G H → ds.length ≤ i → J.stop i H) ∧ (∀ i H, Same G H → i < ds.length → J.go i H) ∧
  ∀ i d H x H', Same G H → ds[i]? = some d → J.yld i H x H' → ∃ G', Grow G H G' H' ∧ FR W G' x d
def PurI (W : Wd) (E : XK) (Xc : XP) (wi : TI) (pi : PTA) : Prop :=
  ∀ Z σ0 H G σ env φ (R : It → Hp → Prop) (Q' : List D → Env → Prop), ER W Z σ0 H G σ env φ → XOk W Z G H E Xc →
    (∀ J ds H' G' env' φ', Ext Z G H G' H' → ER W Z σ0 H' G' σ env' φ' → (∀ G2, Same G' G2 → IT W G2 J ds) → Q' ds env' → R J H') → pi env Q' → wi σ H R
/-- by an invariant: I i, ahead of the i-th turn -/
def forOk (g : PTG) (b : PTS) (L : PEnds) (ds : List D) (I : Nat → Env → Prop) : Prop := ∀ i e, I i e →
  (∀ d, ds[i]? = some d → g d e fun e2 => b { L with nx := I (i + 1), ct := I (i + 1), bk := L.nx } e2) ∧ (i = ds.length → L.nx e)
def sForI (pi : PTA) (g : PTG) (b : PTS) : PTS := fun D env => pi env fun ds e1 => ∃ I : Nat → Env → Prop, I 0 e1 ∧ forOk g b D ds I
theorem purs_for {wi : TI} {pi : PTA} {g : TG} {p : PTG} (hi : PurI W E Xc wi pi) (hg : PurG W g p) (hb : PurS W E Xc ts ps) : PurS W E Xc (tFor wi g ts) (sForI pi p ps) := by
  intro Z σ0 H G σ env φ D D' e x k q
  refine hi Z σ0 H G σ env φ _ _ e x (fun J ds H1 G1 e1 p1 t1 r1 it q1 => ?_) q
  obtain ⟨I, I0, st⟩ := q1
  refine ⟨fun i m σ' H' => m = ds.length - i ∧ i ≤ ds.length ∧ ∃ G' env' φ', Ext Z G H G' H' ∧ Ext Z G1 H1 G' H' ∧ ER W Z σ0 H' G' σ' env' φ' ∧ I i env', ⟨ds.length, by simp, Nat.zero_le _, G1, e1, p1, t1, .refl, r1, I0⟩, ?_⟩
  rintro i m σ' H' ⟨rfl, hle, G', env', φ', t2, t3, r2, q2⟩
  obtain ⟨i1, i2, i3⟩ := it G' t3.g
  by_cases hlt : i < ds.length
  · refine .inr ⟨i2 i H' r2.gh hlt, fun σ2 H2 => ∃ G2 e2 p2, Ext Z G H G2 H2 ∧ Ext Z G1 H1 G2 H2 ∧ ER W Z σ0 H2 G2 σ2 e2 p2 ∧ I (i + 1) e2, fun σ2 H2 ⟨G2, e2, p2, a, b, c, d⟩ => ⟨ds.length - (i + 1), by omega, rfl, hlt, G2, e2, p2, a, b, c, d⟩, fun y H2 hy => ?_⟩
    obtain ⟨G2, g2, f2⟩ := i3 i ds[i] H' y H2 r2.gh (List.getElem?_eq_getElem hlt) hy
    obtain ⟨r3, t4⟩ := r2.grow g2
    refine hg Z σ0 H2 G2 σ' env' φ' y ds[i] _ _ r3 f2 (fun σ3 e3 p3 r4 q4 => ?_) ((st i env' q2).1 _ (List.getElem?_eq_getElem hlt))
    refine hb Z σ0 H2 G2 σ3 e3 p3 _ { D' with nx := I (i + 1), ct := I (i + 1), bk := D'.nx } r4 (x.ext (t2.trans t4)) ⟨fun σ5 H5 G5 e5 p5 t5 r5 q5 => ?_, ((k.ext t2).ext t4).rt, ((k.ext t2).ext t4).nx, fun σ5 H5 G5 e5 p5 t5 r5 q5 => ?_⟩ q4
    · exact ⟨G5, e5, p5, (t2.trans t4).trans t5, (t3.trans t4).trans t5, r5, q5⟩
    · exact ⟨G5, e5, p5, (t2.trans t4).trans t5, (t3.trans t4).trans t5, r5, q5⟩
  · exact .inl ⟨i1 i H' r2.gh (by omega), k.nx σ' H' G' env' φ' t2 r2 ((st i env' q2).2 (by omega))⟩
/-- over a list, a tuple, a range -/
def lsO : D → Option (List D)
  | .lst ds => some ds
  | .scr ns => some (ns.map D.int)
  | .non => none
  | .bl _ => none
  | .int _ => none
  | .str _ => none
  | .tup _ => none
  | .dct _ _ => none
  | .obj _ _ _ => none
  | .hdl _ _ => none
  | .cls _ => none
  | .ty _ => none
  | .exc _ _ _ _ => none
def tpO : D → Option (List D)
  | .tup ds => some ds
  | .lst _ => none
  | .scr _ => none
  | .non => none
  | .bl _ => none
  | .int _ => none
  | .str _ => none
  | .dct _ _ => none
  | .obj _ _ _ => none
  | .hdl _ _ => none
  | .cls _ => none
  | .ty _ => none
  | .exc _ _ _ _ => none
def iL (pe : PTE) : PTA := fun env Q => pe env fun d e1 => ∃ ds, lsO d = some ds ∧ Q ds e1
theorem frs_ints : ∀ ns : List Int, FRs W G (ns.map V.int) (ns.map D.int)
  | [] => .nil
  | _ :: ns => .cons (.int _) (frs_ints ns)
def iT (pe : PTE) : PTA := fun env Q => pe env fun d e1 => ∃ ds, tpO d = some ds ∧ Q ds e1
theorem it_list {a : Addr} {vs : List V} {ds : List D} (h : SqL W.K G a vs) (f : FRs W G vs ds) : IT W G (Itl W.K a) ds := by
  refine ⟨fun i H e hi => ⟨vs, e.seq h, by rw [f.length]; exact hi⟩, fun i H e hi => ?_, fun i d H x H' e hd hy => ?_⟩
  · obtain ⟨v, hv, _⟩ := f.get (List.getElem?_eq_getElem hi)
    exact ⟨vs, v, e.seq h, hv⟩
  · obtain ⟨rfl, hx⟩ := hy
    obtain ⟨v, hv, fv⟩ := f.get hd
    have := hx vs (e.seq h)
    rw [hv] at this
    cases this
    exact ⟨G, Grow.refl e, fv⟩
theorem it_tup {a : Addr} {vs : List V} {ds : List D} (h : SqT W.K G a vs) (f : FRs W G vs ds) : IT W G (Itt W.K a) ds := by
  refine ⟨fun i H e hi => ⟨vs, sqt_mono e h, by rw [f.length]; exact hi⟩, fun i H e hi => ?_, fun i d H x H' e hd hy => ?_⟩
  · obtain ⟨v, hv, _⟩ := f.get (List.getElem?_eq_getElem hi)
    exact ⟨vs, v, sqt_mono e h, hv⟩
  · obtain ⟨rfl, hx⟩ := hy
    obtain ⟨v, hv, fv⟩ := f.get hd
    have := hx vs (sqt_mono e h)
    rw [hv] at this
    cases this
    exact ⟨G, Grow.refl e, fv⟩
theorem puri_list (h : PurE W E Xc te pe) : PurI W E Xc (iList W.K te) (iL pe) := by
  intro Z σ0 H G σ env φ R Q' e x k q
  refine h Z σ0 H G σ env φ _ _ e x (fun v d H1 G1 e1 p1 t1 r1 f1 q1 => ?_) q
  obtain ⟨ds0, hl, q1⟩ := q1
  cases f1 with
  | scr hs => cases hl; exact ⟨_, rfl, ⟨_, r1.gh.seq hs⟩, k _ _ H1 G1 e1 p1 t1 r1 (fun G2 s => it_list (s.seq hs) (frs_ints _)) q1⟩
  | lst hs t => cases hl; exact ⟨_, rfl, ⟨_, SqL.of (r1.gh _ _ hs)⟩, k _ _ H1 G1 e1 p1 t1 r1 (fun G2 s => it_list (SqL.of (s _ _ hs)) (t.mono s)) q1⟩
  | _ => cases hl
theorem puri_tup (h : PurE W E Xc te pe) : PurI W E Xc (iTup W.K te) (iT pe) := by
  intro Z σ0 H G σ env φ R Q' e x k q
  refine h Z σ0 H G σ env φ _ _ e x (fun v d H1 G1 e1 p1 t1 r1 f1 q1 => ?_) q
  obtain ⟨ds0, hl, q1⟩ := q1
  cases f1 with
  | tup hs t => cases hl; exact ⟨_, rfl, ⟨_, sqt_mono r1.gh hs⟩, k _ _ H1 G1 e1 p1 t1 r1 (fun G2 s => it_tup (sqt_mono s hs) (t.mono s)) q1⟩
  | _ => cases hl
def rng (lo : Int) (n : Nat) : List D := (List.range n).map fun (k : Nat) => D.int (lo + (k : Int))
theorem it_rng {lo : Int} {n : Nat} : IT W G (Itr lo n) (rng lo n) := by
  refine ⟨fun i H e hi => (show n ≤ i by simpa [rng] using hi), fun i H e hi => (show i < n by simpa [rng] using hi), fun i d H x H' e hd hy => ?_⟩
  obtain ⟨rfl, rfl⟩ := hy
  have hi : i < n := by
    have := (List.getElem?_eq_some_iff.mp hd).1
    simpa [rng] using this
  have : d = .int (lo + i) := by
    have e2 : (rng lo n)[i]? = some (.int (lo + i)) := by simp [rng, hi]
    rw [e2] at hd
    exact (Option.some.inj hd).symm
  subst this
  exact ⟨G, Grow.refl e, .int _⟩
def iR1 (pa : PTA) : PTA := fun env Q => pa env fun ds e1 => match ds with
  | [.int j] => (-(2 ^ 62) ≤ j ∧ j < 2 ^ 62) ∧ Q (rng 0 j.toNat) e1
  | _ => False
def iR2 (pa : PTA) : PTA := fun env Q => pa env fun ds e1 => match ds with
  | [.int i, .int j] => (-(2 ^ 62) ≤ i ∧ i < 2 ^ 62 ∧ -(2 ^ 62) ≤ j ∧ j < 2 ^ 62) ∧ Q (rng i (j - i).toNat) e1
  | _ => False
theorem puri_r1 {t : TA} {pa : PTA} (h : PurA W E Xc t pa) : PurI W E Xc (iRng1 t) (iR1 pa) := by
  intro Z σ0 H G σ env φ R Q' e x k q
  refine h Z σ0 H G σ env φ _ _ e x (fun vs ds H1 G1 e1 p1 t1 r1 f1 q1 => ?_) q
  match ds, q1 with
  | [.int j], q1 =>
    obtain ⟨v, rfl, f⟩ := frs1 f1
    cases f
    exact ⟨j, rfl, q1.1.1, q1.1.2, k _ _ H1 G1 e1 p1 t1 r1 (fun G2 s => it_rng) q1.2⟩
theorem puri_r2 {t : TA} {pa : PTA} (h : PurA W E Xc t pa) : PurI W E Xc (iRng2 t) (iR2 pa) := by
  intro Z σ0 H G σ env φ R Q' e x k q
  refine h Z σ0 H G σ env φ _ _ e x (fun vs ds H1 G1 e1 p1 t1 r1 f1 q1 => ?_) q
  match ds, q1 with
  | [.int i, .int j], q1 =>
    obtain ⟨v, u, rfl, f, f2⟩ := frs2 f1
    cases f
    cases f2
    exact ⟨i, j, rfl, q1.1, k _ _ H1 G1 e1 p1 t1 r1 (fun G2 s => it_rng) q1.2⟩
/-- while -/
def whileOk (pt : PTT) (b : PTS) (D : PEnds) (I : Nat → Env → Prop) : Prop := ∀ m env, I m env →
  pt env fun c e1 => if c = true then b { D with nx := fun e => ∃ m', m' < m ∧ I m' e, ct := fun e => ∃ m', m' < m ∧ I m' e, bk := D.nx } e1 else D.nx e1
def sWhile (pt : PTT) (b : PTS) : PTS := fun D env => ∃ I : Nat → Env → Prop, (∃ m, I m env) ∧ whileOk pt b D I
theorem purs_while (hc : PurT W E Xc tt pt) (hb : PurS W E Xc ts ps) : PurS W E Xc (tWhile tt ts) (sWhile pt ps) := by
  intro Z σ0 H G σ env φ D D' e x k ⟨I, ⟨m0, h0⟩, q⟩
  refine ⟨fun m σ' H' => ∃ G' env' φ', Ext Z G H G' H' ∧ ER W Z σ0 H' G' σ' env' φ' ∧ I m env', ⟨m0, G, env, φ, .refl, e, h0⟩, ?_⟩
  rintro m σ' H' ⟨G', env', φ', t1, r1, i1⟩
  refine hc Z σ0 H' G' σ' env' φ' _ _ r1 (x.ext t1) (fun b H2 G2 e2 p2 t2 r2 q2 => ?_) (q m env' i1)
  cases b with
  | false =>
    rw [if_neg Bool.false_ne_true] at q2 ⊢
    exact k.nx σ' H2 G2 e2 p2 (t1.trans t2) r2 q2
  | true =>
    rw [if_pos rfl] at q2 ⊢
    refine ⟨fun σ3 H3 => ∃ m', m' < m ∧ ∃ G3 e3 p3, Ext Z G H G3 H3 ∧ ER W Z σ0 H3 G3 σ3 e3 p3 ∧ I m' e3, fun σ3 H3 ⟨m', hm, q3⟩ => ⟨m', hm, q3⟩, ?_⟩
    refine hb Z σ0 H2 G2 σ' e2 p2 _ { D' with nx := fun e => ∃ m', m' < m ∧ I m' e, ct := fun e => ∃ m', m' < m ∧ I m' e, bk := D'.nx } r2 (x.ext (t1.trans t2)) ⟨fun σ5 H5 G5 e5 p5 t5 r5 ⟨m', hm, q5⟩ => ⟨m', hm, G5, e5, p5, (t1.trans t2).trans t5, r5, q5⟩, (k.ext (t1.trans t2)).rt, (k.ext (t1.trans t2)).nx,
      fun σ5 H5 G5 e5 p5 t5 r5 ⟨m', hm, q5⟩ => ⟨m', hm, G5, e5, p5, (t1.trans t2).trans t5, r5, q5⟩⟩ q2
end
end Pu

set_option Elab.async false
set_option linter.all false
set_option maxRecDepth 100000
namespace Pu
open PySem PySem.Spec L2

/-! ### what a def promises, by data -/
abbrev PSp := List Slot → (Slot → Env → Prop) → XP → Prop
def Zn (H : Hp) (φ : Nat → Hp) : Addr → Prop := fun b => H b = none ∨ ∃ i, φ i b ≠ none
def spOf (W : Wd) (ps : PSp) : Sp := fun vs H Q E => ∃ (G : Hp) (as : List Slot) (φ : Nat → Hp) (Q' : Slot → Env → Prop) (Xc : XP),
  ER W (Zn H φ) (vs.map some) H G (vs.map some) as φ ∧ ps as Q' Xc ∧
  (∀ v s F H' G' outs ψ, Ext (Zn H φ) G H G' H' → ER W (Zn H φ) (vs.map some) H' G' (vs.map some) outs ψ → RR W (Zn H φ) H' G' ψ v F s → Q' s outs → Q v H') ∧ XOk W (Zn H φ) G H E Xc

inductive CArg where
  | val (d : D) | ref (i : Nat)
abbrev PCA := Env → (List CArg → Env → Prop) → Prop
def CAR (W : Wd) (G : Hp) (σ : L2.St) (v : V) : CArg → Prop
  | .val d => FR W G v d
  | .ref i => σ[i]? = some (some v)
def CARs (W : Wd) (G : Hp) (σ : L2.St) : List V → List CArg → Prop
  | [], [] => True
  | v :: vs, a :: as => CAR W G σ v a ∧ CARs W G σ vs as
  | _, _ => False
def refs : List CArg → List Nat
  | [] => []
  | .val _ :: r => refs r
  | .ref i :: r => i :: refs r
/-- the arguments as slots -/
def resolve (e : Env) : List CArg → List Slot
  | [] => []
  | .val d :: r => .frz d :: resolve e r
  | .ref i :: r => (match e[i]? with
    | some (.own d) => .par d
    | some (.par d) => .par d
    | some (.tre t) => .ptr t
    | some (.ptr t) => .ptr t
    | _ => .nil) :: resolve e r
def upSlot : Option Slot → Slot → Slot
  | some (.own _), .par d => .own d
  | some (.par _), .par d => .par d
  | some (.tre _), .ptr d => .tre d
  | some (.ptr _), .ptr d => .ptr d
  | _, _ => .nil
def refS : Option Slot → Prop
  | some (.own _) => True
  | some (.par _) => True
  | some (.tre _) => True
  | some (.ptr _) => True
  | _ => False
def putBack (e : Env) : List CArg → List Slot → Env
  | .val _ :: r, _ :: os => putBack e r os
  | .ref i :: r, o :: os => (putBack e r os).set i (upSlot (e[i]?) o)
  | _, _ => e
def allRef (e : Env) (as : List CArg) : Prop := (refs as).Nodup ∧ ∀ i ∈ refs as, refS (e[i]?)
section
variable {W : Wd} {E : XK} {Xc : XP} {ta tb tc te : TE} {pa pb pc pe : PTE} {Z : Addr → Prop} {σ0 : L2.St} {H G H' G' : Hp} {σ : L2.St} {env : Env} {φ : Nat → Hp}
theorem CARs.length : ∀ {vs : List V} {as : List CArg}, CARs W G σ vs as → vs.length = as.length
  | [], [], _ => rfl
  | _ :: _, _ :: _, h => by simp [CARs.length h.2]
  | [], _ :: _, h => h.elim
  | _ :: _, [], h => h.elim
theorem CARs.get : ∀ {vs : List V} {as : List CArg} {k : Nat} {a : CArg}, CARs W G σ vs as → as[k]? = some a → ∃ v, vs[k]? = some v ∧ CAR W G σ v a
  | v :: vs, b :: as, 0, a, h, e => by
    simp at e
    subst e
    exact ⟨v, rfl, h.1⟩
  | v :: vs, b :: as, k + 1, a, h, e => by
    obtain ⟨u, h1, h2⟩ := CARs.get (k := k) (a := a) h.2 (by simpa using e)
    exact ⟨u, by simpa using h1, h2⟩
  | [], [], _, _, _, e => by simp at e
  | [], _ :: _, _, _, h, _ => h.elim
  | _ :: _, [], _, _, h, _ => h.elim
theorem CAR.mono (s : Same G G') {v : V} : ∀ {a : CArg}, CAR W G σ v a → CAR W G' σ v a
  | .val _, h => FR.mono s h
  | .ref _, h => h
theorem CARs.mono (s : Same G G') : ∀ {vs : List V} {as : List CArg}, CARs W G σ vs as → CARs W G' σ vs as
  | [], [], h => h
  | _ :: _, _ :: _, h => ⟨CAR.mono s h.1, CARs.mono s h.2⟩
  | [], _ :: _, h => h.elim
  | _ :: _, [], h => h.elim
def argF (φ : Nat → Hp) (as : List CArg) : Nat → Hp := fun k => match as[k]? with
  | some (.ref i) => φ i
  | _ => emp
theorem argF_ref {as : List CArg} {k i : Nat} (h : as[k]? = some (.ref i)) : argF φ as k = φ i := by unfold argF; rw [h]
theorem argF_cases (as : List CArg) (k : Nat) : argF φ as k = emp ∨ ∃ i, as[k]? = some (.ref i) ∧ argF φ as k = φ i := by
  unfold argF
  split
  · rename_i i h
    exact .inr ⟨i, h, rfl⟩
  · exact .inl rfl
theorem mem_refs : ∀ {as : List CArg} {k i : Nat}, as[k]? = some (.ref i) → i ∈ refs as
  | a :: r, 0, i, h => by
    simp at h
    subst h
    exact List.mem_cons_self
  | .val _ :: r, k + 1, i, h => mem_refs (as := r) (k := k) (by simpa using h)
  | .ref _ :: r, k + 1, i, h => List.mem_cons_of_mem _ (mem_refs (as := r) (k := k) (by simpa using h))
  | [], _, _, h => by simp at h
theorem refs_inj : ∀ {as : List CArg} {k l i : Nat}, (refs as).Nodup → as[k]? = some (.ref i) → as[l]? = some (.ref i) → k = l
  | [], _, _, _, _, h, _ => by simp at h
  | .val _ :: r, 0, _, i, _, h, _ => by simp at h
  | .val _ :: r, _ + 1, 0, i, _, _, h => by simp at h
  | .val _ :: r, k + 1, l + 1, i, n, h1, h2 => congrArg (· + 1) (refs_inj (as := r) (k := k) (l := l) (i := i) n (by simpa using h1) (by simpa using h2))
  | .ref j :: r, 0, 0, i, n, h1, h2 => rfl
  | .ref j :: r, 0, l + 1, i, n, h1, h2 => by
    have e : j = i := by simpa using h1
    subst e
    have m := mem_refs (as := r) (k := l) (by simpa using h2)
    exact absurd m (List.nodup_cons.mp n).1
  | .ref j :: r, k + 1, 0, i, n, h1, h2 => by
    have e : j = i := by simpa using h2
    subst e
    have m := mem_refs (as := r) (k := k) (by simpa using h1)
    exact absurd m (List.nodup_cons.mp n).1
  | .ref j :: r, k + 1, l + 1, i, n, h1, h2 => congrArg (· + 1) (refs_inj (as := r) (k := k) (l := l) (i := i) (List.nodup_cons.mp n).2 (by simpa using h1) (by simpa using h2))
theorem resolve_get {e : Env} : ∀ {as : List CArg} {k : Nat} {s : Slot}, (resolve e as)[k]? = some s →
    (∃ d, as[k]? = some (.val d) ∧ s = .frz d) ∨ ∃ i, as[k]? = some (.ref i) ∧ s = (match e[i]? with
    | some (.own d) => Slot.par d
    | some (.par d) => .par d
    | some (.tre t) => .ptr t
    | some (.ptr t) => .ptr t
    | _ => .nil)
  | [], _, _, h => by simp [resolve] at h
  | .val d :: r, 0, s, h => by
    simp [resolve] at h
    exact .inl ⟨d, rfl, h.symm⟩
  | .val d :: r, k + 1, s, h => resolve_get (as := r) (k := k) (by simpa [resolve] using h)
  | .ref i :: r, 0, s, h => .inr ⟨i, rfl, by simpa [resolve] using h.symm⟩
  | .ref i :: r, k + 1, s, h => resolve_get (as := r) (k := k) (by simpa [resolve] using h)
theorem resolve_length {e : Env} : ∀ {as : List CArg}, (resolve e as).length = as.length
  | [] => rfl
  | .val d :: r => by simp [resolve, resolve_length (as := r)]
  | .ref d :: r => by simp [resolve, resolve_length (as := r)]
/-- the callee's entry -/
theorem ER.enter {vs : List V} {as : List CArg} (e : ER W Z σ0 H G σ env φ) (c : CARs W G σ vs as) (ha : allRef env as) :
    ER W (Zn H (argF φ as)) (vs.map some) H G (vs.map some) (resolve env as) (argF φ as) where
  len := ⟨by rw [List.length_map, resolve_length, c.length], rfl⟩
  sl := fun k s h => by
    rcases resolve_get h with ⟨d, h1, rfl⟩ | ⟨i, h1, rfl⟩
    · obtain ⟨v, h2, h3⟩ := c.get h1
      exact ⟨v, by rw [List.getElem?_map, h2]; rfl, h3⟩
    · obtain ⟨v, h2, h3⟩ := c.get h1
      have hd := ha.2 i (mem_refs h1)
      have hv : (vs.map some)[k]? = some (some v) := by rw [List.getElem?_map, h2]; rfl
      rw [argF_ref h1]
      cases q : env[i]? with
      | none => rw [q] at hd; exact hd.elim
      | some s =>
        rw [q] at hd
        have qs := e.sl i _ q
        cases s with
        | nil => exact hd.elim
        | frz _ => exact hd.elim
        | own _ =>
          obtain ⟨u, q1, q2⟩ := qs
          have : some (some u) = some (some v) := q1.symm.trans h3
          cases this
          exact ⟨v, hv, hv, q2⟩
        | par _ =>
          obtain ⟨u, q1, _, q2⟩ := qs
          have : some (some u) = some (some v) := q1.symm.trans h3
          cases this
          exact ⟨v, hv, hv, q2⟩
        | tre _ =>
          obtain ⟨u, q1, q2⟩ := qs
          have : some (some u) = some (some v) := q1.symm.trans h3
          cases this
          exact ⟨v, hv, hv, q2⟩
        | ptr _ =>
          obtain ⟨u, q1, _, q2⟩ := qs
          have : some (some u) = some (some v) := q1.symm.trans h3
          cases this
          exact ⟨v, hv, hv, q2⟩
  dis := fun k l hkl => by
    rcases argF_cases (φ := φ) as k with h | ⟨i, h1, h⟩
    · rw [h]; exact Dis.emp.symm
    · rcases argF_cases (φ := φ) as l with q | ⟨j, q1, q⟩
      · rw [q]; exact Dis.emp
      · rw [h, q]
        exact e.dis i j fun z => by
          subst z
          exact hkl (refs_inj ha.1 h1 q1)
  dg := fun k => by
    rcases argF_cases (φ := φ) as k with h | ⟨i, _, h⟩
    · rw [h]; exact Dis.emp
    · rw [h]; exact e.dg i
  sub := fun k => by
    rcases argF_cases (φ := φ) as k with h | ⟨i, _, h⟩
    · rw [h]; exact fun _ _ z => nomatch z
    · rw [h]; exact e.sub i
  gh := e.gh
  zn := fun b h => .inl h
  zs := fun k b h => .inr ⟨k, h⟩
theorem zn_z {as : List CArg} (e : ER W Z σ0 H G σ env φ) : ∀ b, Zn H (argF φ as) b → Z b := fun b h => by
  rcases h with h | ⟨k, h⟩
  · exact e.zn b h
  · rcases argF_cases (φ := φ) as k with q | ⟨i, _, q⟩
    · rw [q] at h; exact absurd rfl h
    · rw [q] at h; exact e.zs i b h
/-- the k-th argument that is slot j -/
def posOf : List CArg → Nat → Option Nat
  | [], _ => none
  | .val _ :: r, j => (posOf r j).map (· + 1)
  | .ref i :: r, j => if i = j then some 0 else (posOf r j).map (· + 1)
theorem posOf_some : ∀ {as : List CArg} {j k : Nat}, posOf as j = some k → as[k]? = some (.ref j)
  | [], _, _, h => by simp [posOf] at h
  | .val _ :: r, j, k, h => by
    simp only [posOf, Option.map_eq_some_iff] at h
    obtain ⟨l, h1, rfl⟩ := h
    simpa using posOf_some h1
  | .ref i :: r, j, k, h => by
    simp only [posOf] at h
    split at h
    · rename_i e
      cases h
      subst e
      rfl
    · simp only [Option.map_eq_some_iff] at h
      obtain ⟨l, h1, rfl⟩ := h
      simpa using posOf_some h1
theorem posOf_none : ∀ {as : List CArg} {j k : Nat}, posOf as j = none → as[k]? ≠ some (.ref j)
  | [], _, _, h => by simp
  | .val _ :: r, j, 0, h => by simp
  | .val _ :: r, j, k + 1, h => by
    simp only [posOf, Option.map_eq_none_iff] at h
    simpa using posOf_none (k := k) h
  | .ref i :: r, j, k, h => by
    simp only [posOf] at h
    split at h
    · cases h
    · rename_i hne
      simp only [Option.map_eq_none_iff] at h
      cases k with
      | zero => simpa using hne
      | succ k => simpa using posOf_none (k := k) h
theorem putBack_length {e : Env} : ∀ {as : List CArg} {os : List Slot}, (putBack e as os).length = e.length
  | [], _ => by simp [putBack]
  | .val _ :: _, [] => by simp [putBack]
  | .ref _ :: _, [] => by simp [putBack]
  | .val _ :: r, _ :: os => by simpa [putBack] using putBack_length (as := r) (os := os)
  | .ref _ :: r, _ :: os => by simpa [putBack] using putBack_length (as := r) (os := os)
theorem putBack_get {e : Env} : ∀ {as : List CArg} {os : List Slot} {j : Nat}, os.length = as.length → (refs as).Nodup →
    (putBack e as os)[j]? = match posOf as j with
      | some k => (e[j]?).map fun _ => upSlot (e[j]?) ((os[k]?).getD .nil)
      | none => e[j]?
  | [], os, j, _, _ => by simp [putBack, posOf]
  | .val _ :: r, [], j, h, _ => by simp at h
  | .ref _ :: r, [], j, h, _ => by simp at h
  | .val _ :: r, o :: os, j, h, n => by
    have ih := putBack_get (e := e) (as := r) (os := os) (j := j) (by simpa using h) n
    simp only [putBack, posOf, ih]
    cases posOf r j <;> simp
  | .ref i :: r, o :: os, j, h, n => by
    have ih := putBack_get (e := e) (as := r) (os := os) (j := j) (by simpa using h) (List.nodup_cons.mp n).2
    simp only [putBack, posOf]
    by_cases hij : i = j
    · subst hij
      rw [if_pos rfl, List.getElem?_set_self']
      have hn : posOf r i = none := by
        cases q : posOf r i with
        | none => rfl
        | some k => exact absurd (mem_refs (posOf_some q)) (List.nodup_cons.mp n).1
      rw [hn] at ih
      rw [ih]
      cases e[i]? <;> simp
    · rw [if_neg hij, List.getElem?_set_ne hij, ih]
      cases posOf r j <;> simp
/-- the parts behind the call -/
def jn (as : List CArg) (ψ φ : Nat → Hp) : Nat → Hp := fun j => match posOf as j with
  | some k => ψ k
  | none => φ j
theorem jn_some {as : List CArg} {ψ φ : Nat → Hp} {j k : Nat} (h : posOf as j = some k) : jn as ψ φ j = ψ k := by unfold jn; rw [h]
theorem jn_none {as : List CArg} {ψ φ : Nat → Hp} {j : Nat} (h : posOf as j = none) : jn as ψ φ j = φ j := by unfold jn; rw [h]
/-- behind the call -/
theorem ER.leave {vs : List V} {as : List CArg} {outs : Env} {ψ : Nat → Hp} (e : ER W Z σ0 H G σ env φ) (c : CARs W G σ vs as) (ha : allRef env as)
    (t : Ext (Zn H (argF φ as)) G H G' H') (r : ER W (Zn H (argF φ as)) (vs.map some) H' G' (vs.map some) outs ψ) :
    ER W Z σ0 H' G' σ (putBack env as outs) (jn as ψ φ) := by
  have hlen : outs.length = as.length := by
    have := r.len.1
    rw [List.length_map, c.length] at this
    exact this.symm
  have zz := zn_z (as := as) e
  have out : ∀ {j b}, posOf as j = none → φ j b ≠ none → ¬ Zn H (argF φ as) b := fun {j b} hp hb z => by
    rcases z with z | ⟨k, z⟩
    · cases q : φ j b with
      | none => exact hb q
      | some o => rw [e.sub j b o q] at z; cases z
    · rcases argF_cases (φ := φ) as k with q | ⟨i, q1, q⟩
      · rw [q] at z; exact z rfl
      · rw [q] at z
        have hij : i ≠ j := fun y => by subst y; exact posOf_none hp q1
        rcases e.dis i j hij b with y | y
        · exact z y
        · exact hb y
  have fresh : ∀ {j b}, posOf as j = none → φ j b ≠ none → ∀ {k}, ψ k b = none := fun {j b} hp hb {k} => by
    cases q : ψ k b with
    | none => rfl
    | some o => exact absurd (r.zs k b (ne_none_of q)) (out hp hb)
  refine ⟨⟨by rw [putBack_length]; exact e.len.1, e.len.2⟩, fun j s hj => ?_, fun j k hjk => ?_, fun j => ?_, fun j => ?_, r.gh, fun b h => zz b (r.zn b h), fun j b hb => ?_⟩
  · rw [putBack_get hlen ha.1] at hj
    cases hp : posOf as j with
    | none =>
      rw [hp] at hj
      rw [jn_none hp]
      exact (e.sl j s hj).mono t.g
    | some k =>
      rw [hp] at hj
      rw [jn_some hp]
      have hk := posOf_some hp
      obtain ⟨v, hv, hc⟩ := c.get hk
      have hko : k < outs.length := by
        rw [hlen]
        exact (List.getElem?_eq_some_iff.mp hk).1
      have ho := List.getElem?_eq_getElem hko
      have hs := r.sl k _ ho
      have hd := ha.2 j (mem_refs hk)
      have hvs : (vs.map some)[k]? = some (some v) := by rw [List.getElem?_map, hv]; rfl
      have hj' : (env[j]?).map (fun _ => upSlot (env[j]?) ((outs[k]?).getD .nil)) = some s := hj
      rw [ho] at hj'
      generalize outs[k] = o at hj' hs
      cases q : env[j]? with
      | none => rw [q] at hd; exact hd.elim
      | some s0 =>
        rw [q] at hd hj'
        simp only [Option.map_some, Option.some.injEq, Option.getD_some] at hj'
        subst hj'
        have qe := e.sl j _ q
        cases s0 with
        | nil => exact hd.elim
        | frz _ => exact hd.elim
        | own _ =>
          cases o with
          | par d' =>
            obtain ⟨u, a, b, c'⟩ := hs
            rw [hvs] at a
            cases a
            exact ⟨v, hc, c'⟩
          | _ => exact trivial
        | par _ =>
          cases o with
          | par d' =>
            obtain ⟨u, a, b, c'⟩ := hs
            rw [hvs] at a
            cases a
            obtain ⟨u', a1, a2, _⟩ := qe
            have : some (some u') = some (some v) := a1.symm.trans hc
            cases this
            exact ⟨v, hc, a2, c'⟩
          | _ => exact trivial
        | tre _ =>
          cases o with
          | ptr d' =>
            obtain ⟨u, a, b, c'⟩ := hs
            rw [hvs] at a
            cases a
            exact ⟨v, hc, c'⟩
          | _ => exact trivial
        | ptr _ =>
          cases o with
          | ptr d' =>
            obtain ⟨u, a, b, c'⟩ := hs
            rw [hvs] at a
            cases a
            obtain ⟨u', a1, a2, _⟩ := qe
            have : some (some u') = some (some v) := a1.symm.trans hc
            cases this
            exact ⟨v, hc, a2, c'⟩
          | _ => exact trivial
  · cases hp : posOf as j with
    | none =>
      rw [jn_none hp]
      cases hq : posOf as k with
      | none =>
        rw [jn_none hq]
        exact e.dis j k hjk
      | some l =>
        rw [jn_some hq]
        intro b
        cases h : φ j b with
        | none => exact .inl rfl
        | some o => exact .inr (fresh hp (ne_none_of h))
    | some l =>
      rw [jn_some hp]
      cases hq : posOf as k with
      | none =>
        rw [jn_none hq]
        intro b
        cases h : φ k b with
        | none => exact .inr rfl
        | some o => exact .inl (fresh hq (ne_none_of h))
      | some m =>
        rw [jn_some hq]
        exact r.dis l m fun z => by
          subst z
          have := (posOf_some hp).symm.trans (posOf_some hq)
          simp at this
          exact hjk this
  · cases hp : posOf as j with
    | some k => rw [jn_some hp]; exact r.dg k
    | none =>
      rw [jn_none hp]
      intro b
      cases h : φ j b with
      | none => exact .inr rfl
      | some o =>
        refine .inl ?_
        cases q : G' b with
        | none => rfl
        | some u =>
          rcases t.gz b u q with y | y
          · rcases e.dg j b with z | z
            · rw [z] at y; cases y
            · rw [z] at h; cases h
          · exact absurd y (out hp (ne_none_of h))
  · cases hp : posOf as j with
    | some k => rw [jn_some hp]; exact r.sub k
    | none =>
      rw [jn_none hp]
      exact fun b o h => t.hz b o (e.sub j b o h) (out hp (ne_none_of h))
  · cases hp : posOf as j with
    | some k => rw [jn_some hp] at hb; exact zz b (r.zs k b hb)
    | none => rw [jn_none hp] at hb; exact e.zs j b hb

/-! ### calls -/
def PurCA (W : Wd) (E : XK) (Xc : XP) (ta : TA) (pa : PCA) : Prop :=
  ∀ Z σ0 H G σ env φ (Q : List V → Hp → Prop) (Q' : List CArg → Env → Prop), ER W Z σ0 H G σ env φ → XOk W Z G H E Xc →
    (∀ vs as H' G' env' φ', Ext Z G H G' H' → ER W Z σ0 H' G' σ env' φ' → CARs W G' σ vs as → Q' as env' → Q vs H') → pa env Q' → ta σ H Q
def cNil : PCA := fun env Q => Q [] env
def cVal (p : PTE) (r : PCA) : PCA := fun env Q => p env fun d e1 => r e1 fun as e2 => Q (.val d :: as) e2
def cRef (i : Nat) (r : PCA) : PCA := fun env Q => refS (env[i]?) ∧ r env fun as e2 => Q (.ref i :: as) e2
theorem purca_nil : PurCA W E Xc tNil cNil := fun Z σ0 H G σ env φ Q Q' e x k h => k [] [] H G env φ .refl e trivial h
theorem purca_val {t : TA} {p : PCA} (h1 : PurE W E Xc ta pa) (h2 : PurCA W E Xc t p) : PurCA W E Xc (tCons ta t) (cVal pa p) := by
  intro Z σ0 H G σ env φ Q Q' e x k h
  refine h1 Z σ0 H G σ env φ _ _ e x (fun v1 d1 H1 G1 e1 p1 t1 r1 f1 q1 => ?_) h
  refine h2 Z σ0 H1 G1 σ e1 p1 _ _ r1 (x.ext t1) (fun vs ds H2 G2 e2 p2 t2 r2 f2 q2 => ?_) q1
  exact k (v1 :: vs) (.val d1 :: ds) H2 G2 e2 p2 (t1.trans t2) r2 ⟨f1.mono t2.g, f2⟩ q2
theorem purca_ref {t : TA} {p : PCA} {i : Nat} (h2 : PurCA W E Xc t p) : PurCA W E Xc (tCons (tVar i) t) (cRef i p) := by
  intro Z σ0 H G σ env φ Q Q' e x k ⟨hd, h⟩
  obtain ⟨v, hv⟩ : ∃ v, σ[i]? = some (some v) := by
    cases q : env[i]? with
    | none => rw [q] at hd; exact hd.elim
    | some s =>
      rw [q] at hd
      have qs := e.sl i _ q
      cases s with
      | nil => exact hd.elim
      | frz _ => exact hd.elim
      | own _ => obtain ⟨v, a, _⟩ := qs; exact ⟨v, a⟩
      | par _ => obtain ⟨v, a, _⟩ := qs; exact ⟨v, a⟩
      | tre _ => obtain ⟨v, a, _⟩ := qs; exact ⟨v, a⟩
      | ptr _ => obtain ⟨v, a, _⟩ := qs; exact ⟨v, a⟩
  refine ⟨v, hv, ?_⟩
  refine h2 Z σ0 H G σ env φ _ _ e x (fun vs ds H2 G2 e2 p2 t2 r2 f2 q2 => ?_) h
  exact k (v :: vs) (.ref i :: ds) H2 G2 e2 p2 t2 r2 ⟨hv, f2⟩ q2
def NoX : XP := fun _ _ => False
theorem xok0 : XOk W Z G H E0 NoX := fun _ _ _ _ _ _ _ _ _ _ _ _ h => h.elim
def oCall (ps : PSp) (Xc : XP) (pa : PCA) : PTO := fun env Q => pa env fun as e1 => allRef e1 as ∧ ps (resolve e1 as) (fun s outs => Q s (putBack e1 as outs)) Xc
theorem call_core {ps : PSp} {E' : XK} {Xc' : XP} {t : TA} {pa : PCA} {Q : VK} {Q' : Slot → Env → Prop} (h : PurCA W E Xc t pa)
    (e : ER W Z σ0 H G σ env φ) (x : XOk W Z G H E Xc) (x' : ∀ H' G', Ext Z G H G' H' → XOk W Z G' H' E' Xc') (k : OKOk W Z σ0 G H σ Q Q') (q : oCall ps Xc' pa env Q') : tCall (spOf W ps) [] E' t σ H Q := by
  refine h Z σ0 H G σ env φ _ _ e x (fun vs as H1 G1 e1 p1 t1 r1 c1 q1 => ?_) q
  rw [List.append_nil]
  obtain ⟨ha, q1⟩ := q1
  refine ⟨G1, resolve e1 as, argF p1 as, _, Xc', r1.enter c1 ha, q1, fun v s F H2 G2 outs ψ t2 r2 f2 q2 => ?_, ?_⟩
  · have r3 := r1.leave c1 ha t2 r2
    have zz := zn_z (as := as) r1
    refine k v s F H2 G2 _ _ (t1.trans (t2.weak zz)) r3 ?_ q2
    have dj : ∀ j, (∀ i, Dis (ψ i) F) → (∀ b, F b ≠ none → Zn H1 (argF p1 as) b) → Dis (jn as ψ p1 j) F := by
      intro j c d2
      cases hp : posOf as j with
      | some l => rw [jn_some hp]; exact c l
      | none =>
        rw [jn_none hp]
        intro y
        cases hy : F y with
        | none => exact .inr rfl
        | some o =>
          refine .inl ?_
          cases hz : p1 j y with
          | none => rfl
          | some u =>
            exfalso
            rcases d2 y (ne_none_of hy) with z | ⟨l, z⟩
            · rw [r1.sub j y u hz] at z; cases z
            · rcases argF_cases (φ := p1) as l with w | ⟨i, w1, w⟩
              · rw [w] at z; exact z rfl
              · rw [w] at z
                have hij : i ≠ j := fun y => by subst y; exact posOf_none hp w1
                rcases r1.dis i j hij y with y' | y'
                · exact z y'
                · rw [y'] at hz; cases hz
    cases s with
    | frz d => exact f2
    | own d =>
      obtain ⟨a, b, c, d1, d2⟩ := f2
      exact ⟨a, b, fun j => dj j c d2, d1, fun b hb => zz b (d2 b hb)⟩
    | tre d =>
      obtain ⟨a, b, c, d1, d2⟩ := f2
      exact ⟨a, b, fun j => dj j c d2, d1, fun b hb => zz b (d2 b hb)⟩
    | ptr _ => exact f2
    | nil => exact f2
    | par _ => exact f2
  · intro C f d v dx H3 G3 t3 s3 h0 h3 f3 xc
    exact x' H1 G1 t1 C f d v dx H3 G3 (t3.weak (zn_z (as := as) r1)) s3 (zn_z (as := as) r1 _ h0) h3 f3 xc
/-- a callee that raises nothing -/
theorem puro_call0 {ps : PSp} {t : TA} {pa : PCA} (h : PurCA W E Xc t pa) : PurO W E Xc (tCall (spOf W ps) [] E0 t) (oCall ps NoX pa) :=
  fun Z σ0 H G σ env φ Q Q' e x k q => call_core h e x (fun _ _ _ => xok0) k q
theorem puro_callX {ps : PSp} {t : TA} {pa : PCA} (h : PurCA W E Xc t pa) : PurO W E Xc (tCall (spOf W ps) [] E t) (oCall ps Xc pa) :=
  fun Z σ0 H G σ env φ Q Q' e x k q => call_core h e x (fun _ _ t => x.ext t) k q
/-- a value told to all -/
def asD (Q : D → Env → Prop) : Slot → Env → Prop
  | .frz d, e => Q d e
  | .own d, e => d.sol = true ∧ Q d e
  | .tre t, e => Q t.er e
  | _, _ => False
def eO (po : PTO) : PTE := fun env Q => po env (asD Q)
theorem pure_o {po : PTO} (h : PurO W E Xc te po) : PurE W E Xc te (eO po) := by
  intro Z σ0 H G σ env φ Q Q' e x k q
  refine h Z σ0 H G σ env φ _ _ e x (fun v s F H1 G1 e1 p1 t1 r1 f1 q1 => ?_) q
  cases s with
  | frz d => exact k v d H1 G1 e1 p1 t1 r1 f1 q1
  | own d =>
    obtain ⟨a, b, c, d1, d2⟩ := f1
    have f := a.freeze q1.1 b
    have t2 : Ext Z G1 H1 (un G1 F) H1 := ⟨un_l, fun x o q => by
      rcases un_cases q with q | ⟨_, q⟩
      · exact .inl q
      · exact .inr (d2 x (ne_none_of q)), fun _ _ q _ => q⟩
    refine k v d H1 (un G1 F) e1 p1 (t1.trans t2) ⟨r1.len, fun i s h => (r1.sl i s h).mono un_l, r1.dis, fun i => (r1.dg i).un (c i).symm, r1.sub, un_sub r1.gh d1, r1.zn, r1.zs⟩ f q1.2
  | tre t =>
    obtain ⟨a, b, c, d1, d2⟩ := f1
    have f := a.freeze b
    have t2 : Ext Z G1 H1 (un G1 F) H1 := ⟨un_l, fun x o q => by
      rcases un_cases q with q | ⟨_, q⟩
      · exact .inl q
      · exact .inr (d2 x (ne_none_of q)), fun _ _ q _ => q⟩
    refine k v _ H1 (un G1 F) e1 p1 (t1.trans t2) ⟨r1.len, fun i s h => (r1.sl i s h).mono un_l, r1.dis, fun i => (r1.dg i).un (c i).symm, r1.sub, un_sub r1.gh d1, r1.zn, r1.zs⟩ f q1
  | ptr _ => exact q1.elim
  | nil => exact q1.elim
  | par _ => exact q1.elim
end
end Pu

set_option Elab.async false
set_option linter.all false
set_option maxRecDepth 100000
namespace Pu
open PySem PySem.Spec L2

/-! ### a def from its body -/
def nils (n : Nat) : Env := List.replicate n .nil
def outOf : Slot → Slot
  | .par d => .par d
  | .ptr d => .ptr d
  | _ => .nil
def outs (n : Nat) (env : Env) : Env := (env.take n).map outOf
/-- what a def's body wants -/
def ends (n : Nat) (Q : Slot → Env → Prop) : PEnds := { nx := fun env => Q (.frz .non) (outs n env), rt := fun s env => Q s (outs n env) }
section
variable {W : Wd} {E : XK} {Xc : XP} {ta tb tc te : TE} {pa pb pc pe : PTE} {tt : TT} {pt : PTT} {ts tu : TS} {ps pu : PTS} {Z : Addr → Prop} {σ0 : L2.St} {H G H' G' : Hp} {σ : L2.St} {env : Env} {φ : Nat → Hp}
theorem start_er {N : List Str} {vs : List V} {as : Env} (e : ER W Z (vs.map some) H G (vs.map some) as φ) (hn : as.length ≤ N.length) :
    ER W Z (L2.start N vs) H G (L2.start N vs) (as ++ nils (N.length - as.length)) φ where
  len := by
    have := e.len.1
    rw [List.length_map] at this
    simp [L2.start, nils, this]
  sl := fun i s h => by
    have hl := e.len.1
    rw [List.length_map] at hl
    by_cases hi : i < as.length
    · rw [List.getElem?_append_left hi] at h
      have q := e.sl i s h
      have e2 : (L2.start N vs)[i]? = (vs.map some)[i]? := by
        unfold L2.start
        rw [List.getElem?_append_left (by simpa [hl] using hi)]
      rw [e2]
      exact q
    · rw [List.getElem?_append_right (by omega)] at h
      have : s = .nil := by
        unfold nils at h
        rw [List.getElem?_replicate] at h
        split at h
        · exact (Option.some.inj h).symm
        · cases h
      subst this
      exact trivial
  dis := e.dis
  dg := e.dg
  sub := e.sub
  gh := e.gh
  zn := e.zn
  zs := e.zs
theorem start_out {N : List Str} {vs : List V} {n : Nat} (hn : vs.length = n) (hN : n ≤ env.length) (e : ER W Z (L2.start N vs) H G σ env φ) :
    ER W Z (vs.map some) H G (vs.map some) (outs n env) φ where
  len := ⟨by simp [outs, hn]; omega, rfl⟩
  sl := fun i s h => by
    unfold outs at h
    rw [List.getElem?_map] at h
    have hi : i < n := by
      by_cases hi : i < n
      · exact hi
      · rw [List.getElem?_eq_none (by simp; omega)] at h
        cases h
    rw [List.getElem?_take_of_lt hi] at h
    cases q : env[i]? with
    | none => rw [q] at h; cases h
    | some t =>
      rw [q] at h
      have h' : outOf t = s := Option.some.inj h
      subst h'
      have r := e.sl i t q
      cases t with
      | par d =>
        obtain ⟨v, a, b, c⟩ := r
        have e2 : (L2.start N vs)[i]? = (vs.map some)[i]? := by
          unfold L2.start
          rw [List.getElem?_append_left (by simpa [hn] using hi)]
        rw [e2] at b
        exact ⟨v, b, b, c⟩
      | ptr d =>
        obtain ⟨v, a, b, c⟩ := r
        have e2 : (L2.start N vs)[i]? = (vs.map some)[i]? := by
          unfold L2.start
          rw [List.getElem?_append_left (by simpa [hn] using hi)]
        rw [e2] at b
        exact ⟨v, b, b, c⟩
      | _ => exact trivial
  dis := e.dis
  dg := e.dg
  sub := e.sub
  gh := e.gh
  zn := e.zn
  zs := e.zs
/-- the body's own part of a def's proof -/
theorem body_ok {N : List Str} {vs : List V} {Q : VK} {E' : XK} {n : Nat} {as : List Slot} {Q' : Slot → Env → Prop} (hp : PurS W E' Xc ts ps) (hN : n ≤ N.length) (la : as.length = n)
    (e : ER W (Zn H φ) (vs.map some) H G (vs.map some) as φ) (x : XOk W (Zn H φ) G H E' Xc) (hb : ps (ends n Q') (as ++ nils (N.length - as.length)))
    (k : ∀ v s F H' G' outs ψ, Ext (Zn H φ) G H G' H' → ER W (Zn H φ) (vs.map some) H' G' (vs.map some) outs ψ → RR W (Zn H φ) H' G' ψ v F s → Q' s outs → Q v H') :
    ts { nx := fun _ H' => Q .non H', rt := Q } (L2.start N vs) H := by
  have lv : vs.length = n := by
    have := e.len.1
    rw [List.length_map] at this
    omega
  refine hp (Zn H φ) (L2.start N vs) H G (L2.start N vs) _ φ _ (ends n Q') (start_er e (by omega)) x ⟨?_, ?_, fun _ _ _ _ _ _ _ z => z.elim, fun _ _ _ _ _ _ _ z => z.elim⟩ hb
  · intro σ' H' G' env' φ' t r w
    have len : n ≤ env'.length := by
      have h1 := r.len
      simp [L2.start] at h1
      omega
    exact k .non (.frz .non) emp H' G' _ φ' t (start_out lv len r) .non w
  · intro v s F σ' H' G' env' φ' t r f w
    have len : n ≤ env'.length := by
      have h1 := r.len
      simp [L2.start] at h1
      omega
    exact k v s F H' G' _ φ' t (start_out lv len r) f w

/-! ### a def: from its text to its promise -/
/-- one that raises nothing -/
theorem fun_pure0 {P : Program} {w : World} {K : PySem.W.Frag} {mg : Str → Option Value} {base : Heap} {x qual : Str} {st : Stmt} {f : Addr} {fd : FuncData} {N pn : List Str} {k : Nat} {psp : PSp} {rep mono res}
    (F : Fun K x qual st f fd) (S : FnScope N pn (defScope st)) (hN : pn.length ≤ N.length) (hl : ∀ as Q Xc, psp as Q Xc → as.length = pn.length)
    (hbody : ∀ (cdv : Value) (A : Around) (outer : List PySem.Env) (s : Shared) (H : Hp) (E : XK), Room k (A.deeper (PyProof.Rows.envOfC qual (defScope st) s.heap.objs.size f cdv)) →
      ∃ t p, PSs (cxOf CX0 P w K mg base N qual (defScope st) f cdv A outer s H E).nox (defBody st) t ∧ PurS ⟨P, w, K, rep, mono, res⟩ E0 NoX t p ∧ ∀ as Q X', psp as Q X' → p (ends pn.length Q) (as ++ nils (N.length - as.length))) :
    FnOk P w K mg base CX0 (k + 1) f fd pn (spOf ⟨P, w, K, rep, mono, res⟩ psp) := by
  refine F.ok S (fun vs H Q E h => ?_) (fun cdv A outer s H vs Q E hr h => ?_)
  · obtain ⟨G, as, φ, Q', Xc, e, q, _⟩ := h
    have := e.len.1
    rw [List.length_map, hl _ _ _ q] at this
    exact this
  · obtain ⟨t, p, hs, hp, hb⟩ := hbody cdv A outer s H E hr
    obtain ⟨G, as, φ, Q', Xc, e, q, k, _⟩ := h
    exact ⟨t, hs, body_ok hp hN (hl _ _ _ q) e xok0 (hb _ _ _ q) k⟩
end
end Pu

set_option Elab.async false
set_option linter.all false
set_option maxRecDepth 100000
namespace Pu
open PySem PySem.Spec L2

def wipeE (env : Env) : List Nat → Env
  | [] => env
  | v :: vs => (wipeE env vs).set v .nil
theorem wipeE_length (env : Env) : ∀ vs : List Nat, (wipeE env vs).length = env.length
  | [] => rfl
  | v :: vs => by simp [wipeE, wipeE_length env vs]
theorem wipeE_get {env : Env} {i : Nat} {s : Slot} : ∀ {vs : List Nat}, (wipeE env vs)[i]? = some s → s = .nil ∨ (i ∉ vs ∧ env[i]? = some s)
  | [], h => .inr ⟨by simp, h⟩
  | v :: vs, h => by
    unfold wipeE at h
    by_cases hv : v = i
    · subst hv
      rw [List.getElem?_set_self'] at h
      cases q : (wipeE env vs)[v]? with
      | none => rw [q] at h; cases h
      | some t => rw [q] at h; exact .inl (Option.some.inj h).symm
    · rw [List.getElem?_set_ne hv] at h
      rcases wipeE_get h with h | ⟨h1, h2⟩
      · exact .inl h
      · exact .inr ⟨by simp only [List.mem_cons, not_or]; exact ⟨fun z => hv z.symm, h1⟩, h2⟩
theorem wipe_set {σ σ1 : L2.St} {i : Nat} {v : V} {vs : List Nat} (hi : i ∈ vs) (h : wipe σ1 vs = wipe σ vs) : wipe (σ1.set i (some v)) vs = wipe σ vs := by
  rw [← h]
  clear h
  induction vs with
  | nil => cases hi
  | cons w vs ih =>
    unfold wipe
    by_cases hw : i = w
    · subst hw
      by_cases hm : i ∈ vs
      · rw [ih hm]
      · have : ∀ us : List Nat, i ∉ us → wipe (σ1.set i (some v)) us = (wipe σ1 us).set i (some v) := by
          intro us
          induction us with
          | nil => intro _; rfl
          | cons u us ih2 =>
            intro hu
            simp only [List.mem_cons, not_or] at hu
            unfold wipe
            rw [ih2 hu.2, List.set_comm _ _ hu.1]
        rw [this vs hm, List.set_set]
    · rw [ih (by
        rcases List.mem_cons.mp hi with h | h
        · exact absurd h hw
        · exact h)]
theorem wipe_in {σ : L2.St} {i : Nat} : ∀ {vs : List Nat}, i ∈ vs → (wipe σ vs)[i]? = (σ[i]?).map fun _ => none
  | v :: vs, h => by
    unfold wipe
    by_cases hv : v = i
    · subst hv
      rw [List.getElem?_set_self']
      by_cases hm : v ∈ vs
      · rw [wipe_in hm]; cases σ[v]? <;> rfl
      · rw [wipe_out hm]; rfl
    · rw [List.getElem?_set_ne hv]
      exact wipe_in (by
        rcases List.mem_cons.mp h with h | h
        · exact absurd h.symm hv
        · exact h)
theorem wipe_wipe {σ : L2.St} {vs : List Nat} : wipe (wipe σ vs) vs = wipe σ vs := by
  apply List.ext_getElem?
  intro i
  by_cases hi : i ∈ vs
  · rw [wipe_in hi, wipe_in hi]; cases σ[i]? <;> rfl
  · rw [wipe_out hi]
/-- a target that stores to the slots of vs alone -/
def TgIn (g : TG) (vs : List Nat) : Prop := ∀ (σ0 : L2.St) (v : V) (σ : L2.St) (H : Hp) (Q Q2 : L2.St → Hp → Prop), wipe σ vs = wipe σ0 vs → (∀ σ2, wipe σ2 vs = wipe σ0 vs → Q σ2 H → Q2 σ2 H) → g v σ H Q → g v σ H Q2
def TgsIn (g : TGs) (vs : List Nat) : Prop := ∀ (σ0 : L2.St) (us : List V) (σ : L2.St) (H : Hp) (Q Q2 : L2.St → Hp → Prop), wipe σ vs = wipe σ0 vs → (∀ σ2, wipe σ2 vs = wipe σ0 vs → Q σ2 H → Q2 σ2 H) → g us σ H Q → g us σ H Q2
theorem tgin_name {i : Nat} {vs : List Nat} (hi : i ∈ vs) : TgIn (gName i) vs := fun σ0 v σ H Q Q2 h k q => k _ (wipe_set hi h) q
theorem tgsin_nil {vs : List Nat} : TgsIn gNil vs := fun σ0 us σ H Q Q2 h k ⟨e, q⟩ => ⟨e, k σ h q⟩
theorem tgsin_cons {g : TG} {gs : TGs} {vs : List Nat} (h1 : TgIn g vs) (h2 : TgsIn gs vs) : TgsIn (gCons g gs) vs := fun σ0 us σ H Q Q2 h k ⟨v, r, e, q⟩ =>
  ⟨v, r, e, h1 σ0 v σ H _ _ h (fun σ2 h' q2 => h2 σ0 r σ2 H Q Q2 h' k q2) q⟩
theorem tgin_tup {K : PySem.W.Frag} {n : Nat} {gs : TGs} {vs : List Nat} (h : TgsIn gs vs) : TgIn (gTup K n gs) vs := fun σ0 v σ H Q Q2 hw k ⟨a, xs, e, hs, hl, q⟩ => ⟨a, xs, e, hs, hl, h σ0 xs σ H Q Q2 hw k q⟩

section
variable {W : Wd} {E : XK} {Xc : XP} {ta tb tc te : TE} {pa pb pc pe : PTE} {tt : TT} {pt : PTT} {Z : Addr → Prop} {σ0 : L2.St} {H G H' G' : Hp} {σ : L2.St} {env : Env} {φ : Nat → Hp}
theorem ER.part {σ2 : L2.St} {env2 : Env} (e : ER W Z σ0 H G σ env φ) (l1 : σ2.length = σ.length) (l2 : env2.length = env.length)
    (h : ∀ (i : Nat) s, env2[i]? = some s → s = .nil ∨ (env[i]? = some s ∧ σ2[i]? = σ[i]?)) : ER W Z σ0 H G σ2 env2 φ :=
  ⟨⟨by rw [l1, l2]; exact e.len.1, by rw [l1]; exact e.len.2⟩, fun i s hs => by
    rcases h i s hs with rfl | ⟨h1, h2⟩
    · exact trivial
    · rw [h2]; exact e.sl i s h1, e.dis, e.dg, e.sub, e.gh, e.zn, e.zs⟩
theorem ER.wipe (e : ER W Z σ0 H G σ env φ) (vs : List Nat) : ER W Z σ0 H G (L2.wipe σ vs) (wipeE env vs) φ :=
  e.part (wipe_length _ _) (wipeE_length _ _) fun i s hs => by
    rcases wipeE_get hs with h | ⟨h1, h2⟩
    · exact .inl h
    · exact .inr ⟨h2, wipe_out h1⟩
theorem ER.reWipe {σ2 : L2.St} {vs : List Nat} (e : ER W Z σ0 H G σ2 env φ) (h : L2.wipe σ2 vs = L2.wipe σ vs) : ER W Z σ0 H G (L2.wipe σ vs) (wipeE env vs) φ := by
  rw [← h]; exact e.wipe vs
/-- back to the slots as they were -/
theorem ER.unwipe {vs : List Nat} (e : ER W Z σ0 H G (L2.wipe σ vs) (wipeE env vs) φ) : ER W Z σ0 H G σ (wipeE env vs) φ :=
  e.part (wipe_length _ _).symm rfl fun i s hs => by
    rcases wipeE_get hs with h | ⟨h1, h2⟩
    · exact .inl h
    · exact .inr ⟨hs, (wipe_out h1).symm⟩
/-- an object outside of the zone changes -/
theorem ER.updOut {p : Addr} {o : HO} (e : ER W Z σ0 H G σ env φ) (hz : ¬ Z p) (hg : G p = none) : ER W Z σ0 (upd H p o) G σ env φ where
  len := e.len
  sl := e.sl
  dis := e.dis
  dg := e.dg
  sub := fun i b u h => by
    have : b ≠ p := fun z => by
      subst z
      exact hz (e.zs i b (ne_none_of h))
    rw [upd_ne this]
    exact e.sub i b u h
  gh := fun b u h => by
    have : b ≠ p := fun z => by
      subst z
      rw [hg] at h; cases h
    rw [upd_ne this]
    exact e.gh b u h
  zn := fun b h => by
    by_cases hb : b = p
    · subst hb; rw [upd_same] at h; cases h
    · rw [upd_ne hb] at h; exact e.zn b h
  zs := e.zs
theorem XOk.zone {Z' : Addr → Prop} (x : XOk W Z G H E Xc) (h : ∀ b, Z' b → Z b) : XOk W Z' G H E Xc :=
  fun C f d v dx H' G' t s h0 h1 h2 h3 => x C f d v dx H' G' (t.weak h) s (h _ h0) h1 h2 h3

/-! ### comprehensions -/
def compOk (g : PTG) (tt : PTT) (te : PTE) (vs : List Nat) (Q : Slot → Env → Prop) (ds : List D) (I : Nat → List D → Env → Prop) : Prop := ∀ i acc e, I i acc e →
  (∀ d, ds[i]? = some d → g d e fun e1 => tt e1 fun b e2 => if b = true then te e2 fun y e3 => acc.length < sizeLine ∧ I (i + 1) (acc ++ [y]) (wipeE e3 vs) else I (i + 1) acc (wipeE e2 vs)) ∧ (i = ds.length → Q (.own (.lst acc)) e)
def oComp (pi : PTA) (g : PTG) (tt : PTT) (te : PTE) (vs : List Nat) : PTO := fun env Q => pi env fun ds e1 => ∃ I : Nat → List D → Env → Prop, I 0 [] (wipeE e1 vs) ∧ compOk g tt te vs Q ds I
def tYes' : PTT := fun env Q => Q true env
theorem purt_yes : PurT W E Xc tYes tYes' := fun Z σ0 H G σ env φ Q Q' e x k q => k true H G env φ .refl e q
theorem puro_lc {wi : TI} {pi : PTA} {g : TG} {p : PTG} {vs : List Nat} (hi : PurI W E Xc wi pi) (hg : PurG W g p) (hin : TgIn g vs) (ht : PurT W E Xc tt pt) (he : PurE W E Xc te pe) :
    PurO W E Xc (tLc wi g tt te vs) (oComp pi p pt pe vs) := by
  intro Z σ0 H G σ env φ Q Q' e x k q
  refine hi Z σ0 H G σ env φ _ _ e x (fun J ds H1 G1 e1 p1 t1 r1 it q1 => ?_) q
  obtain ⟨I, I0, st⟩ := q1
  intro Dd hD
  have zD : Z Dd := r1.zn Dd hD
  let Z' : Addr → Prop := fun b => Z b ∧ b ≠ Dd
  have zz : ∀ b, Z' b → Z b := fun b h => h.1
  have hG1 : G1 Dd = none := r1.gh.free hD
  have r1' : ER W Z' σ0 (upd H1 Dd (.lst [])) G1 σ e1 p1 := by
    have r := r1.growH (same_upd (o := .lst []) hD)
    refine ⟨r.len, r.sl, r.dis, r.dg, r.sub, r.gh, fun b h => ⟨r.zn b h, fun z => ?_⟩, fun i b h => ⟨r.zs i b h, fun z => ?_⟩⟩
    · subst z; rw [upd_same] at h; cases h
    · subst z
      exact h ((r1.sub i).free hD)
  let Iv : Nat → Hp → Prop := fun i Hh => ∃ Gg ev pv acc us, Ext Z G1 H1 Gg Hh ∧ Same G1 Gg ∧ Gg Dd = none ∧ Hh Dd = some (.lst us) ∧ FRs W Gg us acc ∧ ER W Z' σ0 Hh Gg (L2.wipe σ vs) (wipeE ev vs) pv ∧
    I i acc (wipeE ev vs)
  refine ⟨fun i m Hh => m = ds.length - i ∧ i ≤ ds.length ∧ Iv i Hh,
    ⟨ds.length, by simp, Nat.zero_le _, G1, e1, p1, [], [], ⟨Same.refl _, fun _ _ h => .inl h, fun b o h hn => same_upd hD b o h⟩, Same.refl _, hG1, upd_same, .nil, r1'.wipe vs, I0⟩, ?_⟩
  rintro i m Hh ⟨rfl, hle, Gg, ev, pv, acc, us, t2, sg, hGd, hHd, fr, r2, q2⟩
  obtain ⟨i1, i2, i3⟩ := it Gg sg
  by_cases hlt : i < ds.length
  · refine .inr ⟨i2 i Hh r2.gh hlt, Iv (i + 1), fun H' h => ⟨ds.length - (i + 1), by omega, rfl, hlt, h⟩, fun y H3 hy => ?_⟩
    have q2 := (st i acc _ q2).1 _ (List.getElem?_eq_getElem hlt)
    obtain ⟨G3, g3, f3⟩ := i3 i ds[i] Hh y H3 r2.gh (List.getElem?_eq_getElem hlt) hy
    obtain ⟨r3, t3⟩ := r2.grow g3
    have nD : ∀ {Ga Ha Gb Hb : Hp}, Ext Z' Ga Ha Gb Hb → Ga Dd = none → Gb Dd = none := fun {Ga Ha Gb Hb} t h => by
      cases z : Gb Dd with
      | none => rfl
      | some u =>
        rcases t.gz Dd u z with w | w
        · rw [h] at w; cases w
        · exact absurd rfl w.2
    have hG3 : G3 Dd = none := nD t3 hGd
    have hH3 : H3 Dd = some (.lst us) := g3.h _ _ hHd
    have fr3 := fr.mono g3.g
    have x3 : XOk W Z' G3 H3 E Xc := ((x.ext t1).ext (t2.trans (t3.weak zz))).zone zz
    refine hin σ y (L2.wipe σ vs) H3 (fun σ2 H2 => ∃ env' φ', ER W Z' σ0 H3 G3 σ2 env' φ' ∧ (pt env' fun b e2 => if b = true then pe e2 fun y e3 => acc.length < sizeLine ∧ I (i + 1) (acc ++ [y]) (wipeE e3 vs) else I (i + 1) acc (wipeE e2 vs))) _ wipe_wipe
      (fun σ2 hw ⟨env', φ', r4, q4⟩ => ⟨hw, ?_⟩) (hg Z' σ0 H3 G3 (L2.wipe σ vs) (wipeE ev vs) pv y ds[i] _ _ r3 f3 (fun σ' env' φ' r q => ⟨env', φ', r, q⟩) q2)
    refine ht Z' σ0 H3 G3 σ2 env' φ' _ _ r4 x3 (fun b H4 G4 e4 p4 t4 r5 q5 => ?_) q4
    have hG4 := nD t4 hG3
    have hH4 : H4 Dd = some (.lst us) := t4.hz _ _ hH3 fun z => z.2 rfl
    have fr4 := fr3.mono t4.g
    have tt4 : Ext Z G1 H1 G4 H4 := (t2.trans (t3.weak zz)).trans (t4.weak zz)
    cases b with
    | false =>
      rw [if_neg Bool.false_ne_true] at q5 ⊢
      exact ⟨G4, e4, p4, acc, us, tt4, (sg.trans t3.g).trans t4.g, hG4, hH4, fr4, r5.reWipe hw, q5⟩
    | true =>
      rw [if_pos rfl] at q5 ⊢
      refine he Z' σ0 H4 G4 σ2 e4 p4 _ _ r5 (x3.ext t4) (fun v d H5 G5 e5 p5 t5 r6 f6 q6 => ?_) q5
      have hG5 := nD t5 hG4
      have hH5 : H5 Dd = some (.lst us) := t5.hz _ _ hH4 fun z => z.2 rfl
      have fr5 := fr4.mono t5.g
      refine ⟨us, hH5, by rw [fr.length]; exact q6.1, G5, e5, p5, acc ++ [d], us ++ [v], (tt4.trans (t5.weak zz)).trans ⟨Same.refl _, fun _ _ h => .inl h, fun b o h hn => ?_⟩, ((sg.trans t3.g).trans t4.g).trans t5.g, hG5, upd_same, fr5.snoc f6, (r6.reWipe hw).updOut (fun z => z.2 rfl) hG5, q6.2⟩
      rw [upd_ne (fun z => hn (by rw [z]; exact zD))]
      exact h
  · refine .inl ⟨i1 i Hh r2.gh (by omega), ?_⟩
    have q2 := (st i acc _ q2).2 (by omega)
    have r3 : ER W Z σ0 Hh Gg σ (wipeE ev vs) pv := by
      have r := r2.unwipe
      exact ⟨r.len, r.sl, r.dis, r.dg, r.sub, r.gh, fun b h => zz b (r.zn b h), fun i b h => zz b (r.zs i b h)⟩
    refine k (.ref Dd) (.own (.lst acc)) (one Dd (.lst us)) Hh Gg (wipeE ev vs) pv (t1.trans t2) r3 ⟨.lst one_same fr, fun b => ?_, fun i b => ?_, fun b o h => ?_, fun b h => ?_⟩ q2
    · by_cases hb : b = Dd
      · subst hb; exact .inl hGd
      · exact .inr (one_ne hb)
    · by_cases hb : b = Dd
      · subst hb
        cases z : pv i b with
        | none => exact .inl rfl
        | some u => exact absurd rfl (r2.zs i b (ne_none_of z)).2
      · exact .inr (one_ne hb)
    · by_cases hb : b = Dd
      · subst hb
        rw [one_same] at h
        rw [hHd]; exact h
      · rw [one_ne hb] at h; cases h
    · by_cases hb : b = Dd
      · subst hb; exact zD
      · exact absurd (one_ne hb) h
end
end Pu

set_option Elab.async false
set_option linter.all false
set_option maxRecDepth 100000
namespace Pu
open PySem PySem.Spec L2

section
variable {W : Wd} {E : XK} {Xc : XP} {ta tb tc te : TE} {pa pb pc pe : PTE} {tt : TT} {pt : PTT} {Z : Addr → Prop} {σ0 : L2.St} {H G H' G' : Hp} {σ : L2.St} {env : Env} {φ : Nat → Hp}
/-! ### + -/
def rPlus (K : PySem.W.Frag) : R2 := fun x y H Q => (rI0 (fun i j => .int (i + j))) x y H Q ∨ (∃ i j, x = .str i ∧ y = .str j ∧ i.length + j.length ≤ sizeLine ∧ Q (.str (i ++ j)) H) ∨ rCat x y H Q ∨ rCatA K x y H Q
theorem op_plus {X : Cx} : OpR X (binaryOp .Add) (rPlus X.K) := op_add.or (op_add_str.or (op_cat.or op_catA))
theorem pr_plus : PurR2 W (rPlus W.K) pAdd := by
  intro G H x y dx dy Q Q' e f1 f2 k h
  cases f1 with
  | int i => cases f2 <;> first | (exact h.elim) | exact .inl ⟨_, _, rfl, rfl, k _ _ G H (Grow.refl e) (.int _) h⟩
  | str i => cases f2 <;> first | (exact h.elim) | exact .inr (.inl ⟨_, _, rfl, rfl, h.1, k _ _ G H (Grow.refl e) (.str _) h.2⟩)
  | @lst a us as ha ta =>
    cases f2 <;> first | (exact h.elim) | skip
    rename_i b ws bs hb tb
    obtain ⟨hl, h⟩ := h
    refine .inr (.inr (.inl ⟨_, _, _, _, rfl, rfl, e _ _ ha, e _ _ hb, by rw [ta.length, tb.length]; exact hl, fun p hp => ?_⟩))
    have g := Grow.new (o := .lst (us ++ ws)) e hp
    exact k _ _ _ _ g (.lst upd_same ((ta.append tb).mono g.g)) h
  | @tup a us as ha ta =>
    cases f2 <;> first | (exact h.elim) | skip
    rename_i b ws bs hb tb
    obtain ⟨hl, h⟩ := h
    refine .inr (.inr (.inr ⟨_, _, _, _, rfl, rfl, sqt_mono e ha, sqt_mono e hb, by rw [ta.length, tb.length]; exact hl, fun z => ?_, fun z z2 => ?_, fun z z2 p hp => ?_⟩))
    · subst z
      cases ta
      exact k _ _ G H (Grow.refl e) (.tup hb tb) h
    · subst z2
      cases tb
      rw [List.append_nil] at h
      exact k _ _ G H (Grow.refl e) (.tup ha ta) h
    · have g := Grow.new (o := .tup (us ++ ws)) e hp
      exact k _ _ _ _ g (.tup (.inl (.inl upd_same)) ((ta.append tb).mono g.g)) h
  | _ => exact h.elim
/-! ### * -/
def rMulS : R2 := fun x y H Q => ∃ z i, x = .str z ∧ y = .int i ∧ (i < 2 ^ 40 ∧ -(2 ^ 40) < i) ∧ z.length * i.toNat ≤ 1000000 ∧ Q (.str (Txt.mul z i)) H
theorem op_mulS {X : Cx} : OpR X (binaryOp .Mult) rMulS := by
  intro pins s σ H x y v u Q I rx ry h
  obtain ⟨z, i, rfl, rfl, ⟨h1, h2⟩, hz, q⟩ := h
  obtain ⟨t, rfl⟩ := rx
  obtain ⟨t', rfl⟩ := ry
  refine PySem.SB.mul ⟨?_, fun a b => ?_, fun a b => ?_⟩ fun t' k => ⟨.str _, H, I.tok k, ⟨t', rfl⟩, q⟩
  · rw [Bool.or_eq_false_iff]
    exact ⟨decide_eq_false (by omega), decide_eq_false (by omega)⟩
  · have hi : 1 ≤ i := by omega
    have e : ((i.toNat : Nat) : Int) = i := Int.toNat_of_nonneg (by omega)
    have hz' : (z.length : Int) * i ≤ 1000000 := by
      have h4 : ((z.length * i.toNat : Nat) : Int) ≤ 1000000 := by omega
      rw [Int.natCast_mul, e] at h4
      exact h4
    have h3 : (z.length : Int) ≤ (2 ^ 63 - 1) / i := by
      rw [Int.le_ediv_iff_mul_le (by omega)]
      omega
    omega
  · have := sizeLine_eq
    exact decide_eq_false (by omega)
def rTimes : R2 := fun x y H Q => rI CMul (fun i j => .int (i * j)) x y H Q ∨ rMulS x y H Q ∨ rRep x y H Q
theorem op_times {X : Cx} : OpR X (binaryOp .Mult) rTimes := op_mul.or (op_mulS.or op_rep)
def pMul : D → D → (D → Prop) → Prop
  | .int i, .int j, Q => CMul i j ∧ Q (.int (i * j))
  | .str z, .int i, Q => (i < 2 ^ 40 ∧ -(2 ^ 40) < i) ∧ z.length * i.toNat ≤ 1000000 ∧ Q (.str (Txt.mul z i))
  | .lst xs, .int i, Q => (-(2 ^ 63) ≤ i ∧ i < 2 ^ 63) ∧ xs.length * i.toNat ≤ sizeLine ∧ Q (.lst (List.replicate i.toNat xs).flatten)
  | _, _, _ => False
theorem frs_rep {us : List V} {ds : List D} (f : FRs W G us ds) : ∀ n : Nat, FRs W G (List.replicate n us).flatten (List.replicate n ds).flatten
  | 0 => .nil
  | n + 1 => by
    rw [List.replicate_succ, List.replicate_succ, List.flatten_cons, List.flatten_cons]
    exact f.append (frs_rep f n)
theorem pr_times : PurR2 W rTimes pMul := by
  intro G H x y dx dy Q Q' e f1 f2 k h
  cases f1 with
  | int i => cases f2 <;> first | (exact h.elim) | exact .inl ⟨_, _, rfl, rfl, h.1, k _ _ G H (Grow.refl e) (.int _) h.2⟩
  | str i => cases f2 <;> first | (exact h.elim) | exact .inr (.inl ⟨_, _, rfl, rfl, h.1, h.2.1, k _ _ G H (Grow.refl e) (.str _) h.2.2⟩)
  | @lst a us as ha ta =>
    cases f2 <;> first | (exact h.elim) | skip
    rename_i i
    obtain ⟨⟨h1, h2⟩, hl, h⟩ := h
    refine .inr (.inr ⟨_, _, _, rfl, rfl, e _ _ ha, h1, h2, by rw [ta.length]; exact hl, fun p hp => ?_⟩)
    have g := Grow.new (o := .lst (List.replicate i.toNat us).flatten) e hp
    exact k _ _ _ _ g (.lst upd_same ((frs_rep ta _).mono g.g)) h
  | _ => exact h.elim
/-! ### slices -/
def cutD {α : Type} (xs : List α) (lo hi : Option Int) : List α := (xs.drop (HT.sIx xs.length 0 lo)).take (HT.sIx xs.length xs.length hi - HT.sIx xs.length 0 lo)
theorem cut_frs {us : List V} {ds : List D} (f : FRs W G us ds) (lo hi : Option Int) : FRs W G (cutV us lo hi) (cutD ds lo hi) := by
  unfold cutV cutD
  rw [f.length]
  exact (f.drop _).take _
def rCut (K : PySem.W.Frag) : V → Option Int → Option Int → Hp → VK → Prop := fun x lo hi H Q => rSlL K x lo hi H Q ∨ rSlS x lo hi H Q ∨ rSlA K x lo hi H Q
theorem SlR.or {X : Cx} {r r' : V → Option Int → Option Int → Hp → VK → Prop} (h : L2.SlR X r) (h' : L2.SlR X r') : L2.SlR X (fun x lo hi H Q => r x lo hi H Q ∨ r' x lo hi H Q) := by
  intro pins s σ H x v vl vu lo hi sl Q I rx hs pl pu q
  rcases q with q | q
  · exact h pins s σ H x v vl vu lo hi sl Q I rx hs pl pu q
  · exact h' pins s σ H x v vl vu lo hi sl Q I rx hs pl pu q
theorem sl_cut {X : Cx} : L2.SlR X (rCut X.K) := SlR.or sl_list (SlR.or sl_str sl_tupA)
def pCut (d : D) (lo hi : Option Int) (Q : D → Prop) : Prop := match d with
  | .lst xs => Q (.lst (cutD xs lo hi))
  | .scr ns => Q (.lst ((cutD ns lo hi).map D.int))
  | .str z => z.length ≤ sizeLine ∧ Q (.str (cutS z lo hi))
  | .tup xs => Q (.tup (cutD xs lo hi))
  | _ => False
def PurR3 (W : Wd) (r : V → Option Int → Option Int → Hp → VK → Prop) (p : D → Option Int → Option Int → (D → Prop) → Prop) : Prop :=
  ∀ G H x dx lo hi (Q : VK) (Q' : D → Prop), Same G H → FR W G x dx → (∀ v d G' H', Grow G H G' H' → FR W G' v d → Q' d → Q v H') → p dx lo hi Q' → r x lo hi H Q
theorem pr_cut : PurR3 W (rCut W.K) pCut := by
  intro G H x dx lo hi Q Q' e f k h
  cases f with
  | @lst a us as ha ta =>
    refine .inl ⟨_, _, rfl, SqL.of (e _ _ ha), fun p hp => ?_⟩
    have g := Grow.new (o := .lst (cutV us lo hi)) e hp
    exact k _ _ _ _ g (.lst upd_same ((cut_frs ta lo hi).mono g.g)) h
  | @scr a ns ha =>
    refine .inl ⟨_, _, rfl, e.seq ha, fun p hp => ?_⟩
    have g := Grow.new (o := .lst (cutV (ns.map V.int) lo hi)) e hp
    have ec : cutV (ns.map V.int) lo hi = (cutD ns lo hi).map V.int := by
      unfold cutV cutD
      rw [List.length_map, List.map_take, List.map_drop]
    refine k _ _ _ _ g (.lst upd_same ?_) h
    rw [ec]
    exact frs_ints _
  | str z => exact .inr (.inl ⟨_, rfl, h.1, k _ _ G H (Grow.refl e) (.str _) h.2⟩)
  | @tup a us as ha ta =>
    refine .inr (.inr ⟨_, _, rfl, sqt_mono e ha, fun z => ?_, fun z p hp => ?_⟩)
    · have : cutD as lo hi = as := by
        unfold cutD
        rw [← ta.length, z.1, z.2, List.drop_zero, Nat.sub_zero, List.take_of_length_le (by rw [ta.length]; exact Nat.le_refl _)]
      have h' : Q' (.tup (cutD as lo hi)) := h
      rw [this] at h'
      exact k _ _ G H (Grow.refl e) (.tup ha ta) h'
    · have g := Grow.new (o := .tup (cutV us lo hi)) e hp
      exact k _ _ _ _ g (.tup (.inl (.inl upd_same)) ((cut_frs ta lo hi).mono g.g)) h
  | _ => exact h.elim
/-- the ends of a slice, looked at -/
abbrev PQO := Env → (Option Int → Prop) → Prop
def PurQO (W : Wd) (E : XK) (Xc : XP) (to : TO) (pq : PQO) : Prop :=
  ∀ Γ H σ env (Q : Option Int → Hp → Prop) (Q' : Option Int → Prop), Vw W Γ H σ env → XV W Γ H E Xc → (∀ b Γ' H', Grow Γ H Γ' H' → Q' b → Q b H') → pq env Q' → to σ H Q
def qNo : PQO := fun _ Q => Q none
def asI (Q : Int → Prop) : D → Prop
  | .int i => Q i
  | _ => False
def qPart (pq : PQE) : PQO := fun env Q => pq env (asI fun i => Q (some i))
theorem purqo_no : PurQO W E Xc tNoPart qNo := fun Γ H σ env Q Q' v x k h => k none Γ H (Grow.refl v.gh) h
theorem purqo_part {pq : PQE} (h : PurQ W E Xc te pq) : PurQO W E Xc (tPart te) (qPart pq) := by
  intro Γ H σ env Q Q' v x k q
  refine h Γ H σ env _ _ v x (fun u d Γ' H' g f q => ?_) q
  cases f <;> first | (exact q.elim) | exact ⟨_, rfl, k _ Γ' H' g q⟩
def qCut (pa : PQE) (pl ph : PQO) : PQE := fun env Q => pa env fun d => pl env fun lo => ph env fun hi => pCut d lo hi Q
theorem purq_cut {pa : PQE} {tl th : TO} {pl ph : PQO} (ha : PurQ W E Xc ta pa) (hl : PurQO W E Xc tl pl) (hh : PurQO W E Xc th ph) : PurQ W E Xc (tSl (rCut W.K) ta tl th) (qCut pa pl ph) := by
  intro Γ H σ env Q Q' v x k q
  refine ha Γ H σ env _ _ v x (fun u d Γ1 H1 g1 f1 q1 => ?_) q
  refine hl Γ1 H1 σ env _ _ (v.grow g1) (x.grow g1) (fun lo Γ2 H2 g2 q2 => ?_) q1
  refine hh Γ2 H2 σ env _ _ (v.grow (g1.trans g2)) (x.grow (g1.trans g2)) (fun hi Γ3 H3 g3 q3 => ?_) q2
  exact pr_cut Γ3 H3 u d lo hi _ _ g3.gh (f1.mono (g2.trans g3).g) (fun v d G4 H4 g4 f4 q4 => k v d G4 H4 (((g1.trans g2).trans g3).trans g4) f4 q4) q3
def eCut (pa : PTE) (pl ph : PQO) : PTE := fun env Q => pa env fun d e1 => pl e1 fun lo => ph e1 fun hi => pCut d lo hi fun r => Q r e1
theorem pure_cut {tl th : TO} {pl ph : PQO} (ha : PurE W E Xc ta pa) (hl : PurQO W E Xc tl pl) (hh : PurQO W E Xc th ph) : PurE W E Xc (tSl (rCut W.K) ta tl th) (eCut pa pl ph) := by
  intro Z σ0 H G σ env φ Q Q' e x k q
  refine ha Z σ0 H G σ env φ _ _ e x (fun u d H1 G1 e1 p1 t1 r1 f1 q1 => ?_) q
  refine hl _ H1 σ e1 _ _ r1.vw ((x.ext t1).view r1) (fun lo Γ2 H2 g2 q2 => ?_) q1
  have r2 := r1.growH g2.h
  have t2 : Ext Z G1 H1 G1 H2 := .growH g2.h
  refine hh _ H2 σ e1 _ _ r2.vw (((x.ext t1).ext t2).view r2) (fun hi Γ3 H3 g3 q3 => ?_) q2
  have r3 := r2.growH g3.h
  refine pr_cut G1 H3 u d lo hi _ _ r3.gh f1 (fun v d G4 H4 g4 f4 q4 => ?_) q3
  obtain ⟨r4, t4⟩ := r3.grow g4
  exact k v d H4 G4 e1 p1 (((t1.trans t2).trans (.growH g3.h)).trans t4) r4 f4 q4
/-! ### texts -/
theorem frs_strs : ∀ {vs : List V} {ds : List D} {ys : List Str}, FRs W G vs ds → ds = ys.map D.str → vs = ys.map V.str
  | _, _, [], .nil, _ => rfl
  | _, _, y :: ys, .cons h t, e => by
    simp only [List.map_cons, List.cons.injEq] at e
    obtain ⟨rfl, e⟩ := e
    cases h
    rw [frs_strs t e]
    rfl
  | _, _, _ :: _, .nil, e => by simp at e
  | _, _, [], .cons _ _, e => by simp at e
/-- methods of texts -/
def isStr : D → Bool
  | .str _ => true
  | _ => false
theorem isStr_of {v : V} {d : D} (f : FR W G v d) (h : isStr d = true) : ∃ a, v = .str a := by
  cases f <;> first | (cases h; done) | exact ⟨_, rfl⟩
def qM1 (p : D → D → (D → Prop) → Prop) (pa pb : PQE) : PQE := fun env Q => pa env fun x => isStr x = true ∧ pb env fun y => p x y Q
def qM0 (p : D → (D → Prop) → Prop) (pa : PQE) : PQE := fun env Q => pa env fun x => isStr x = true ∧ p x Q
theorem purq_m1 {r : V → List V → Hp → VK → Prop} {p : D → D → (D → Prop) → Prop} {pa pb : PQE} (hr : PurR2 W (fun x y => r x [y]) p) (ha : PurQ W E Xc ta pa) (hb : PurQ W E Xc tb pb) : PurQ W E Xc (tM1 r ta tb) (qM1 p pa pb) := by
  intro Γ H σ env Q Q' v x k h
  refine ha Γ H σ env _ _ v x (fun v1 d1 G1 H1 g1 f1 q1 => ?_) h
  refine ⟨isStr_of f1 q1.1, hb G1 H1 σ env _ _ (v.grow g1) (x.grow g1) (fun v2 d2 G2 H2 g2 f2 q2 => ?_) q1.2⟩
  exact hr G2 H2 v1 v2 d1 d2 _ _ g2.gh (f1.mono g2.g) f2 (fun v3 d3 G3 H3 g3 f3 q3 => k v3 d3 G3 H3 ((g1.trans g2).trans g3) f3 q3) q2
theorem purq_m0 {r : V → List V → Hp → VK → Prop} {p : D → (D → Prop) → Prop} {pa : PQE} (hr : PurR1 W (fun x => r x []) p) (ha : PurQ W E Xc ta pa) : PurQ W E Xc (tM0 r ta) (qM0 p pa) := by
  intro Γ H σ env Q Q' v x k h
  refine ha Γ H σ env _ _ v x (fun v1 d1 G1 H1 g1 f1 q1 => ?_) h
  exact ⟨isStr_of f1 q1.1, hr G1 H1 v1 d1 _ _ g1.gh f1 (fun v3 d3 G3 H3 g3 f3 q3 => k v3 d3 G3 H3 (g1.trans g3) f3 q3) q1.2⟩
def eM1 (p : D → D → (D → Prop) → Prop) (pa pb : PTE) : PTE := fun env Q => pa env fun x e1 => isStr x = true ∧ pb e1 fun y e2 => p x y fun d => Q d e2
def eM0 (p : D → (D → Prop) → Prop) (pa : PTE) : PTE := fun env Q => pa env fun x e1 => isStr x = true ∧ p x fun d => Q d e1
theorem pure_m1 {r : V → List V → Hp → VK → Prop} {p : D → D → (D → Prop) → Prop} (hr : PurR2 W (fun x y => r x [y]) p) (ha : PurE W E Xc ta pa) (hb : PurE W E Xc tb pb) : PurE W E Xc (tM1 r ta tb) (eM1 p pa pb) := by
  intro Z σ0 H G σ env φ Q Q' e x k h
  refine ha Z σ0 H G σ env φ _ _ e x (fun v1 d1 H1 G1 e1 p1 t1 r1 f1 q1 => ⟨isStr_of f1 q1.1, ?_⟩) h
  refine hb Z σ0 H1 G1 σ e1 p1 _ _ r1 (x.ext t1) (fun v2 d2 H2 G2 e2 p2 t2 r2 f2 q2 => ?_) q1.2
  refine hr G2 H2 v1 v2 d1 d2 _ _ r2.gh (f1.mono t2.g) f2 (fun v3 d3 G3 H3 g3 f3 q3 => ?_) q2
  obtain ⟨r3, t3⟩ := r2.grow g3
  exact k v3 d3 H3 G3 e2 p2 ((t1.trans t2).trans t3) r3 f3 q3
theorem pure_m0 {r : V → List V → Hp → VK → Prop} {p : D → (D → Prop) → Prop} (hr : PurR1 W (fun x => r x []) p) (ha : PurE W E Xc ta pa) : PurE W E Xc (tM0 r ta) (eM0 p pa) := by
  intro Z σ0 H G σ env φ Q Q' e x k h
  refine ha Z σ0 H G σ env φ _ _ e x (fun v1 d1 H1 G1 e1 p1 t1 r1 f1 q1 => ⟨isStr_of f1 q1.1, ?_⟩) h
  refine hr G1 H1 v1 d1 _ _ r1.gh f1 (fun v3 d3 G3 H3 g3 f3 q3 => ?_) q1.2
  obtain ⟨r3, t3⟩ := r1.grow g3
  exact k v3 d3 H3 G3 e1 p1 (t1.trans t3) r3 f3 q3
/-- the texts of a list -/
def strsOf : List D → Option (List Str)
  | [] => some []
  | .str x :: r => (strsOf r).map (x :: ·)
  | _ => none
theorem strsOf_map (ys : List Str) : strsOf (ys.map D.str) = some ys := by
  induction ys with
  | nil => rfl
  | cons y ys ih => simp [strsOf, ih]
theorem of_strsOf : ∀ {ds : List D} {ys : List Str}, strsOf ds = some ys → ds = ys.map D.str
  | [], ys, h => by
    simp [strsOf] at h
    subst h
    rfl
  | .str x :: r, ys, h => by
    simp only [strsOf, Option.map_eq_some_iff] at h
    obtain ⟨zs, h1, rfl⟩ := h
    rw [of_strsOf h1]
    rfl
  | .non :: _, _, h => by simp [strsOf] at h
  | .bl _ :: _, _, h => by simp [strsOf] at h
  | .int _ :: _, _, h => by simp [strsOf] at h
  | .tup _ :: _, _, h => by simp [strsOf] at h
  | .lst _ :: _, _, h => by simp [strsOf] at h
  | .dct _ _ :: _, _, h => by simp [strsOf] at h
  | .hdl _ _ :: _, _, h => by simp [strsOf] at h
  | .cls _ :: _, _, h => by simp [strsOf] at h
  | .ty _ :: _, _, h => by simp [strsOf] at h
  | .scr _ :: _, _, h => by simp [strsOf] at h
  | .exc _ _ _ _ :: _, _, h => by simp [strsOf] at h
def joinOk (a : Str) (ys : List Str) : Prop := (ys.map (·.length)).sum + ys.length * a.length ≤ 16777216
def pJoin : D → D → (D → Prop) → Prop
  | .str a, .lst ds, Q => match strsOf ds with
    | some ys => joinOk a ys ∧ Q (.str (Txt.join a ys))
    | none => False
  | .str a, .tup ds, Q => match strsOf ds with
    | some ys => joinOk a ys ∧ Q (.str (Txt.join a ys))
    | none => False
  | _, _, _ => False
theorem pr_join : PurR2 W (fun x y => (fun (x : V) (xs : List V) (H : Hp) (Q : VK) => ∃ a p, ∃ ys : List Str, x = .str a ∧ xs = [.ref p] ∧ (SqL W.K H p (ys.map V.str) ∨ SqT W.K H p (ys.map V.str)) ∧
    (ys.map (·.length)).sum + ys.length * a.length ≤ 16777216 ∧ Q (.str (Txt.join a ys)) H) x [y]) pJoin := by
  intro G H x y dx dy Q Q' e f1 f2 k h
  cases f1 <;> first | (exact h.elim) | skip
  cases f2 <;> first | (exact h.elim) | skip
  · rename_i a p us ds hs t
    simp only [pJoin] at h
    split at h
    · rename_i ys hy
      have := frs_strs t (of_strsOf hy)
      subst this
      exact ⟨_, _, ys, rfl, rfl, .inr (sqt_mono e hs), h.1, k _ _ G H (Grow.refl e) (.str _) h.2⟩
    · exact h.elim
  · rename_i a p us ds hs t
    simp only [pJoin] at h
    split at h
    · rename_i ys hy
      have := frs_strs t (of_strsOf hy)
      subst this
      exact ⟨_, _, ys, rfl, rfl, .inl (SqL.of (e _ _ hs)), h.1, k _ _ G H (Grow.refl e) (.str _) h.2⟩
    · exact h.elim
/-! ### lists that change -/
def asL : Slot → Option (List D)
  | .own (.lst xs) => some xs
  | .par (.lst xs) => some xs
  | _ => none
def putL (ys : List D) : Slot → Slot
  | .own _ => .own (.lst ys)
  | .par _ => .par (.lst ys)
  | s => s
theorem ER.mutL {i : Nat} {s : Slot} {xs : List D} (e : ER W Z σ0 H G σ env φ) (h : env[i]? = some s) (hs : asL s = some xs) :
    ∃ a vs, σ[i]? = some (some (.ref a)) ∧ H a = some (.lst vs) ∧ FRs W G vs xs ∧ ∀ us ys, FRs W G us ys →
      Ext Z G H G (upd H a (.lst us)) ∧ ER W Z σ0 (upd H a (.lst us)) G σ (env.set i (putL ys s)) (fun j => if j = i then one a (.lst us) else φ j) := by
  have key : ∃ a vs, σ[i]? = some (some (.ref a)) ∧ φ i a = some (.lst vs) ∧ FRs W G vs xs ∧ ∀ us ys, FRs W G us ys → SlR W G (σ0[i]?) (σ[i]?) (one a (.lst us)) (putL ys s) := by
    have q := e.sl i s h
    cases s with
    | nil => cases hs
    | frz _ => cases hs
    | tre _ => cases hs
    | ptr _ => cases hs
    | own d =>
      cases d <;> first | (cases hs; done) | skip
      cases hs
      obtain ⟨v, a, b⟩ := q
      cases b with
      | @lst p vs _ h1 h2 => exact ⟨p, vs, a, h1, h2, fun us ys f => ⟨_, a, .lst one_same f⟩⟩
    | par d =>
      cases d <;> first | (cases hs; done) | skip
      cases hs
      obtain ⟨v, a, c, b⟩ := q
      cases b with
      | @lst p vs _ h1 h2 => exact ⟨p, vs, a, h1, h2, fun us ys f => ⟨_, a, c, .lst one_same f⟩⟩
  obtain ⟨a, vs, h1, h2, h3, h4⟩ := key
  have hH := e.sub i a _ h2
  have za : Z a := e.zs i a (ne_none_of h2)
  have ga : G a = none := by
    rcases e.dg i a with z | z
    · exact z
    · rw [z] at h2; cases h2
  have pa : ∀ j, j ≠ i → φ j a = none := fun j hj => by
    rcases e.dis j i hj a with z | z
    · exact z
    · rw [z] at h2; cases h2
  refine ⟨a, vs, h1, hH, h3, fun us ys f => ⟨⟨Same.refl _, fun _ _ q => .inl q, fun b o q hn => ?_⟩, ?_⟩⟩
  · rw [upd_ne (fun z => hn (by rw [z]; exact za))]
    exact q
  · refine ⟨⟨by simp [e.len.1], e.len.2⟩, fun j t hj => ?_, fun j k hjk => ?_, fun j => ?_, fun j => ?_, fun b o q => ?_, fun b q => ?_, fun j b q => ?_⟩
    · by_cases hji : j = i
      · subst hji
        have ht : t = putL ys s := by
          rw [List.getElem?_set_self', h] at hj
          exact (Option.some.inj hj).symm
        subst ht
        simp only [if_pos]
        exact h4 us ys f
      · rw [List.getElem?_set_ne (Ne.symm hji)] at hj
        simp only [if_neg hji]
        exact e.sl j t hj
    · have d1 : ∀ m, m ≠ i → Dis (φ m) (one a (.lst us)) := fun m hm b => by
        by_cases hb : b = a
        · subst hb; exact .inl (pa m hm)
        · exact .inr (one_ne hb)
      by_cases hj : j = i
      · by_cases hk : k = i
        · exact absurd (hj.trans hk.symm) hjk
        · simp only [if_pos hj, if_neg hk]
          exact (d1 k hk).symm
      · by_cases hk : k = i
        · simp only [if_neg hj, if_pos hk]
          exact d1 j hj
        · simp only [if_neg hj, if_neg hk]
          exact e.dis j k hjk
    · by_cases hj : j = i
      · simp only [if_pos hj]
        intro b
        by_cases hb : b = a
        · subst hb; exact .inl ga
        · exact .inr (one_ne hb)
      · simp only [if_neg hj]; exact e.dg j
    · by_cases hj : j = i
      · simp only [if_pos hj]
        intro b o q
        by_cases hb : b = a
        · subst hb
          rw [one_same] at q
          rw [upd_same]; exact q
        · rw [one_ne hb] at q; cases q
      · simp only [if_neg hj]
        intro b o q
        have : b ≠ a := fun z => by
          subst z
          rw [pa j hj] at q; cases q
        rw [upd_ne this]
        exact e.sub j b o q
    · have : b ≠ a := fun z => by
        subst z
        rw [ga] at q; cases q
      rw [upd_ne this]
      exact e.gh b o q
    · by_cases hb : b = a
      · subst hb; exact za
      · rw [upd_ne hb] at q; exact e.zn b q
    · by_cases hj : j = i
      · simp only [if_pos hj] at q
        by_cases hb : b = a
        · subst hb; exact za
        · exact absurd (one_ne hb) q
      · simp only [if_neg hj] at q; exact e.zs j b q
theorem ER.listAt {i : Nat} {s : Slot} {xs : List D} (e : ER W Z σ0 H G σ env φ) (h : env[i]? = some s) (hs : asL s = some xs) : ∃ a vs, σ[i]? = some (some (.ref a)) ∧ H a = some (.lst vs) := by
  obtain ⟨a, vs, h1, h2, _⟩ := e.mutL h hs
  exact ⟨a, vs, h1, h2⟩
/-- look at slot i's list behind the arguments: the same object -/
def sApp (i : Nat) (pe : PTE) : PTS := fun L env => (∃ s xs, env[i]? = some s ∧ asL s = some xs) ∧ pe env fun d e1 => ∃ s xs, e1[i]? = some s ∧ asL s = some xs ∧ xs.length < sizeLine ∧ L.nx (e1.set i (putL (xs ++ [d]) s))
theorem purs_app {i : Nat} (h : PurE W E Xc te pe) : PurS W E Xc (tDrop (tBM W.K "list" rAppend (tVar i) (tCons te tNil))) (sApp i pe) := by
  intro Z σ0 H G σ env φ L L' e x k ⟨⟨s, xs, hs, hx⟩, q⟩
  obtain ⟨a, vs, h1, h2⟩ := e.listAt hs hx
  refine ⟨.ref a, h1, .inl ⟨rfl, vs, SqL.of h2⟩, ?_⟩
  refine h Z σ0 H G σ env φ _ _ e x (fun v d H1 G1 e1 p1 t1 r1 f1 q1 => ?_) q
  obtain ⟨s', xs', hs', hx', hl, q1⟩ := q1
  obtain ⟨a', vs', h1', h2', h3', h4'⟩ := r1.mutL hs' hx'
  rw [h1] at h1'
  cases h1'
  obtain ⟨t2, r2⟩ := h4' (vs' ++ [v]) (xs' ++ [d]) (h3'.snoc f1)
  exact ⟨a, vs', v, rfl, rfl, h2', by rw [h3'.length]; exact hl, k.nx _ _ _ _ _ (t1.trans t2) r2 q1⟩
/-- xs.extend(a list) -/
def sExt (i : Nat) (pe : PTE) : PTS := fun L env => (∃ s xs, env[i]? = some s ∧ asL s = some xs) ∧ pe env fun d e1 => match d with
  | .lst ys => ∃ s xs, e1[i]? = some s ∧ asL s = some xs ∧ xs.length + ys.length ≤ sizeLine ∧ L.nx (e1.set i (putL (xs ++ ys) s))
  | _ => False
theorem purs_ext {i : Nat} (h : PurE W E Xc te pe) : PurS W E Xc (tDrop (tBM W.K "list" rExtend (tVar i) (tCons te tNil))) (sExt i pe) := by
  intro Z σ0 H G σ env φ L L' e x k ⟨⟨s, xs, hs, hx⟩, q⟩
  obtain ⟨a, vs, h1, h2⟩ := e.listAt hs hx
  refine ⟨.ref a, h1, .inl ⟨rfl, vs, SqL.of h2⟩, ?_⟩
  refine h Z σ0 H G σ env φ _ _ e x (fun v d H1 G1 e1 p1 t1 r1 f1 q1 => ?_) q
  cases f1 <;> first | (exact q1.elim) | skip
  rename_i b us ys hb tb
  obtain ⟨s', xs', hs', hx', hl, q1⟩ := q1
  obtain ⟨a', vs', h1', h2', h3', h4'⟩ := r1.mutL hs' hx'
  rw [h1] at h1'
  cases h1'
  obtain ⟨t2, r2⟩ := h4' (vs' ++ us) (xs' ++ ys) (h3'.append tb)
  exact ⟨a, b, vs', us, rfl, rfl, h2', r1.gh _ _ hb, by rw [h3'.length, tb.length]; exact hl, k.nx _ _ _ _ _ (t1.trans t2) r2 q1⟩
/-- xs.pop() as a value -/
def ePop (i : Nat) : PTE := fun env Q => ∃ s xs d, env[i]? = some s ∧ asL s = some xs ∧ xs[xs.length - 1]? = some d ∧ Q d (env.set i (putL xs.dropLast s))
theorem FRs.dropLast : ∀ {vs : List V} {ds : List D}, FRs W G vs ds → FRs W G vs.dropLast ds.dropLast := fun {vs ds} f => by
  rw [List.dropLast_eq_take, List.dropLast_eq_take, f.length]
  exact f.take _
theorem pure_pop {i : Nat} : PurE W E Xc (tBM0 W.K "list" rPop (tVar i)) (ePop i) := by
  intro Z σ0 H G σ env φ Q Q' e x k ⟨s, xs, d, hs, hx, hd, q⟩
  obtain ⟨a, vs, h1, h2, h3, h4⟩ := e.mutL hs hx
  obtain ⟨v, hv, fv⟩ := h3.get hd
  obtain ⟨t2, r2⟩ := h4 _ _ h3.dropLast
  exact ⟨.ref a, h1, .inl ⟨rfl, vs, SqL.of h2⟩, a, vs, v, rfl, rfl, h2, by rw [h3.length]; exact hv, k v d _ _ _ _ t2 r2 fv q⟩
/-- xs[i] = e -/
def sSetI (i : Nat) (pe pj : PTE) : PTS := fun L env => pe env fun d e1 => (∃ s xs, e1[i]? = some s ∧ asL s = some xs) ∧ pj e1 fun z e2 => match z with
  | .int k => ∃ s xs j, e2[i]? = some s ∧ asL s = some xs ∧ ixN xs.length k = some j ∧ L.nx (e2.set i (putL (xs.set j d) s))
  | _ => False
theorem purs_setI {i : Nat} {pj : PTE} (h : PurE W E Xc te pe) (hj : PurE W E Xc tb pj) : PurS W E Xc (tAsg te (gSub (tVar i) tb rSetL)) (sSetI i pe pj) := by
  intro Z σ0 H G σ env φ L L' e x k q
  refine h Z σ0 H G σ env φ _ _ e x (fun v d H1 G1 e1 p1 t1 r1 f1 q1 => ?_) q
  obtain ⟨⟨s, xs, hs, hx⟩, q1⟩ := q1
  obtain ⟨a, vs, h1, h2⟩ := r1.listAt hs hx
  refine ⟨.ref a, h1, ?_⟩
  refine hj Z σ0 H1 G1 σ e1 p1 _ _ r1 (x.ext t1) (fun u z H2 G2 e2 p2 t2 r2 f2 q2 => ?_) q1
  cases f2 <;> first | (exact q2.elim) | skip
  obtain ⟨s', xs', j, hs', hx', hij, q2⟩ := q2
  obtain ⟨a', vs', h1', h2', h3', h4'⟩ := r2.mutL hs' hx'
  rw [h1] at h1'
  cases h1'
  obtain ⟨t3, r3⟩ := h4' (vs'.set j v) (xs'.set j d) (FRs.set (f1.mono t2.g) j h3')
  exact ⟨a, vs', _, j, rfl, rfl, h2', by rw [h3'.length]; exact hij, k.nx _ _ _ _ _ ((t1.trans t2).trans t3) r3 q2⟩
end
end Pu

set_option Elab.async false
set_option linter.all false
set_option maxRecDepth 100000
namespace PySem.W
open PySem PySem.Spec PyProof.Rows
theorem method_own {prog : Program} {w : World} {A : Around} {E : Value → Shared → Prop} {s : Shared} {K : Frag} {C0 : Addr} {name : Str} {v : Value} {pl : Sem Bool} {Q : Value × List Value → Shared → Prop} (X : K.In s.heap)
    (ho : nsIn K cStatics "thirdparty.any" = some none) (ht : typeIn K (.ref C0) = some (.type "type")) (e : findCls K (.ref C0) (.type "type") name = some (.val v)) (hh : handedIn v = true)
    (h : Q (v, []) { s with toks := s.toks + 1 }) : wpAny (model prog w) A (getMethod (.ref C0) name pl) Q E s := by
  have L0 : Looks (model prog w) s.heap (typeOf (.ref C0)) (.type "type") := looks_typeIn X ht
  have hg : findIn K (.type "type") "__getattribute__" = some (some (.builtin "type.__getattribute__")) := type_tga
  unfold getMethod specialOf
  refine wpAny_bind (wpAny_bind (L0.here ((looks_findIn X hg).here ?_)))
  dsimp only
  rw [if_pos canon_tga]
  refine wpAny_bind (wpAny_mono (Q := fun v => Q (v, [])) (E := E) ?_ (fun _ _ z => wpAny_pure z) fun _ _ z => z)
  refine cls_open X (looks_opaque X ho) L0 hg (looks_hook X (r := none) (by rfl)) (by show subIn K _ _ = _; rfl) e
    (wpAny_pure (by show wpAny _ _ (handedOut v) _ _ _; rw [handedOut_of hh]; exact wpAny_pure h))
end PySem.W
namespace Pu
open PySem PySem.Spec L2
/-! ### an error class whose __init__ calls its base's and stores one attribute -/
section
variable {X : Cx}
theorem pe_baseinit {C0 : Addr} {x : Str} {ta : TA} {e : Expr} {es : List Expr} {p1 p2 pos : Pos} {pl : Sem Bool} (hg : Gl X x) (hm : X.mg x = some (.ref C0)) (ho : PySem.W.nsIn X.K cStatics "thirdparty.any" = some none) (ht : PySem.W.typeIn X.K (.ref C0) = some (.type "type"))
    (vV : PySem.W.findCls X.K (.ref C0) (.type "type") "__init__" = some (.val (.builtin "ValueError.__init__"))) (ha : PA X (e :: es) ta) (hdb : (x == ("__debug__" : Str)) = false := by decide)
    (hc : eval (.Call (.Attribute (.Name x p1) "__init__" p2) (e :: es) [] pos) X.env = (do
      let ov ← eval (.Name x p1) X.env
      standAt p2.atName
      let (f, first) ← holding [ov] (getMethod ov "__init__" pl)
      callWith pos f first (backTo pos (starEach (e :: es) X.env)) (backToKw pos (keywordEach [] X.env))) := by rfl)
    (he : starEach (e :: es) X.env = (false, eval e X.env) :: starEach es X.env := by rfl) (hpl : (backTo pos (starEach es X.env)).any (·.1) = false := by rfl) :
    PE X (.Call (.Attribute (.Name x p1) "__init__" p2) (e :: es) [] pos) (tVeI X.K ta) := by
  refine ⟨fun pins s σ H Q I h => ?_⟩
  refine PySem.W.methodCall_KW (ld_glob I hg hm ?_ hdb) hc
  refine PySem.W.method_own I.kIn ho ht vV (by decide +kernel) ?_
  show wpAny _ _ (callWith pos (Value.builtin "ValueError.__init__") [] (backTo pos (starEach (e :: es) X.env)) []) _ _ _
  refine PyProof.Rows.callWith_method1 (thn (ha.run pos pins _ σ H _ (I.tok _) h) fun us s1 ⟨vs, H1, I1, r1, a, C, ws, ev, hl, T, ea, q⟩ => ?_) he hpl
  subst ev
  cases r1 with
  | @cons _ u0 _ ur ra rw' =>
    obtain rfl : u0 = Value.ref a := ra
    have hlen : ur.length ≤ sizeLine := by
      rw [← Paired.length rw', sizeLine_eq]
      omega
    exact oinit_ok T I1 ea hlen fun s' J => ⟨.non, H1, J, rfl, q⟩
end
/-- what __init__ does: the attribute f is the argument -/
def spInit (f : Str) : Sp := fun vs H Q _ => ∃ (a C : Addr) (v : V), vs = [.ref a, v] ∧ H a = some (exo a C none) ∧ ∃ K : PySem.W.Frag, OexC K C ∧ PySem.W.findIn K (.ref C) f = some none ∧
  ∀ dx, H dx = none → dx ≠ a → Q .non (upd (upd H dx (exd dx [(f, v)])) a (exo a C (some dx)))
def spInitK (K : PySem.W.Frag) (C : Addr) (f : Str) : Sp := fun vs H Q _ => ∃ (a : Addr) (v : V), vs = [.ref a, v] ∧ H a = some (exo a C none) ∧
  ∀ dx, H dx = none → dx ≠ a → Q .non (upd (upd H dx (exd dx [(f, v)])) a (exo a C (some dx)))
/-- what the written part says of the class x at C (its __init__ at fI, its base y at C0) -/
structure ErrC (K : PySem.W.Frag) (mg : Str → Option Value) (C fI C0 : Addr) (x y f : Str) : Prop where
  gC : mg x = some (.ref C)
  g0 : mg y = some (.ref C0)
  oex : OexC K C
  ho : PySem.W.nsIn K cStatics "thirdparty.any" = some none
  t0 : PySem.W.typeIn K (.ref C0) = some (.type "type")
  vV : PySem.W.findCls K (.ref C0) (.type "type") "__init__" = some (.val (.builtin "ValueError.__init__"))
  no : PySem.W.findIn K (.ref C) f = some none
  iC : PySem.W.findIn K (.ref C) "__init__" = some (some (.ref fI))
  tI : PySem.W.typeIn K (.ref fI) = some (.type "function")
  xf : XfC K C
  ie : ExcC K C
  te : PySem.W.exmOne K (.ref C) (.ref C) = some true
/-- the text of such an __init__ -/
structure InitS (st : Stmt) (y f msg : Str) : Prop where
  body : ∃ p1 p2 p3 p4 p5 p6 p7 p8 p9 p10 k z1 z2, defBody st = [.Expr (.Call (.Attribute (.Name y p1) "__init__" p2) [.Name "self" p3, .Constant (.str msg) k p4] [] p5) p6, .Assign [.Attribute (.Name "self" p7) f p8] (.Name z1 p9) p10] ∧ z2 = z1
section
variable {P : Program} {w : World} {K : PySem.W.Frag} {mg : Str → Option Value} {base : Heap} {C fI C0 : Addr} {x y f : Str}
theorem pure_init (T : ErrC K mg C fI C0 x y f) {msg : Str} (vs : List V) (H : Hp) (Q : VK) (E : XK) (h : spInitK K C f vs H Q E) {N : List Str} (hN : N.length = 2) :
    (tSeq (tDrop (tVeI K (tCons (tVar 0) (tCons (tC (.str msg)) tNil)))) (tOst K f (tVar 0) (tVar 1))) { nx := fun _ H' => Q .non H', rt := Q } (L2.start N vs) H := by
  obtain ⟨a, v, rfl, ha, k⟩ := h
  have e : L2.start N [.ref a, v] = [some (.ref a), some v] := by
    unfold L2.start
    rw [hN]
    rfl
  rw [e]
  refine ⟨_, rfl, a, C, [.str msg], rfl, by show 1 ≤ 1000; decide, T.oex, ha, ?_⟩
  exact ⟨_, rfl, _, rfl, a, C, rfl, T.oex, T.no, .inl ⟨ha, fun dx n ne => k dx n ne⟩⟩
end
/-- raise C(e) -/
def sRaise (Xc : XP) (C : Addr) (f : Str) (pe : PTE) : PTS := fun _ env => pe env fun d _ => Xc C [(f, d)]
section
variable {W : Wd} {E : XK} {Xc : XP} {te : TE} {pe : PTE} {Z : Addr → Prop} {σ0 : L2.St} {H G H' G' : Hp} {σ : L2.St} {env : Env} {φ : Nat → Hp}
theorem purs_raise {C : Addr} {f : Str} (h : PurE W E Xc te pe) : PurS W E Xc (fun _ σ H => tMkO C (spInitK W.K C f) [] (tCons te tNil) σ H fun cls d H' => E cls d H') (sRaise Xc C f pe) := by
  intro Z σ0 H G σ env φ D D' e x k q
  refine h Z σ0 H G σ env φ _ _ e x (fun v d H1 G1 e1 p1 t1 r1 f1 q1 => ?_) q
  refine ⟨by show 1 ≤ 1000; decide, fun a ha => ?_⟩
  refine ⟨a, v, rfl, upd_same, fun dx hdx hne => ⟨rfl, dx, [(f, v)], upd_same, ?_, ?_, ?_⟩⟩
  · rw [upd_ne hne, upd_same]
  · rw [upd_ne hne] at hdx
    exact hdx
  · have hd1 : H1 dx = none := by
      rw [upd_ne hne] at hdx
      exact hdx
    have eq : upd (del (upd (upd (upd H1 a (exo a C none)) dx (exd dx [(f, v)])) a (exo a C (some dx))) a) dx (.xd [(f, v)]) = upd H1 dx (.xd [(f, v)]) := by
      funext b
      by_cases hb : b = dx
      · subst hb; rw [upd_same, upd_same]
      · rw [upd_ne hb, upd_ne hb]
        by_cases hba : b = a
        · subst hba; rw [del_same, ha]
        · rw [del_ne hba, upd_ne hba, upd_ne hb, upd_ne hba]
    rw [eq]
    have sm : Same H1 (upd H1 dx (.xd [(f, v)])) := same_upd hd1
    exact x C f d v dx _ G1 (t1.trans (.growH sm)) (r1.gh.trans sm) (r1.zn dx hd1) upd_same f1 q1
/-- e.f in an except suite: the caught error stands at a, its dict at dd -/
def qXf (a dd : Addr) (f : Str) (pq : PQE) : PQE := fun env Q => pq env fun x => match x with
  | .exc a' dd' f' d => a' = a ∧ dd' = dd ∧ f' = f ∧ Q d
  | _ => False
theorem purq_xf {a dd C : Addr} {f : Str} {pq : PQE} (h : PurQ W E Xc te pq) : PurQ W E Xc (tXf a (.ref C) (some dd) C f te) (qXf a dd f pq) := by
  intro Γ H σ env Q Q' v x k q
  refine h Γ H σ env _ _ v x (fun u d Γ' H' g f' q1 => ?_) q
  cases f' <;> first | (exact q1.elim) | skip
  rename_i a' dd' f'' v' d' hd fd
  obtain ⟨rfl, rfl, rfl, q1⟩ := q1
  exact ⟨rfl, rfl, _, _, _, rfl, g.gh _ _ hd, by simp [List.lookup], k _ _ Γ' H' g fd q1⟩
/-- isinstance(e, C), e caught -/
def pIsE (a : Addr) (C0 : Addr) (b : Bool) : D → D → (D → Prop) → Prop
  | .exc a' _ _ _, .cls c, Q => a' = a ∧ c = C0 ∧ Q (.bl b)
  | _, _, _ => False
theorem pc_isE {a C C0 : Addr} {b : Bool} (hk : PySem.W.kitOne W.K (.ref C) (.ref C0) = some b) : PurC W (rIsE W.K C a) (p2 (pIsE a C0 b)) := pc_2 <| by
  intro G H x y dx dy Q Q' e f1 f2 k h
  cases f1 <;> first | (exact h.elim) | skip
  cases f2 <;> first | (exact h.elim) | skip
  obtain ⟨rfl, rfl, q⟩ := h
  exact ⟨.ref _, .ref _, b, rfl, fun u hu => hu, hk, k _ _ G H (Grow.refl e) (.bl _) q⟩
/-- isinstance(x, T) -/
def tyD : D → Option String
  | .non => some "NoneType"
  | .bl _ => some "bool"
  | .int _ => some "int"
  | .str _ => some "str"
  | .lst _ => some "list"
  | .tup _ => some "tuple"
  | _ => none
def isiOk (t n : String) (b : Bool) : Prop := ∀ K : PySem.W.Frag, PySem.W.kitOne K (.type t) (.type n) = some b
def pIsi (x y : D) (Q : D → Prop) : Prop := match tyD x, y with
  | some t, .ty n => (t = n ∧ Q (.bl true)) ∨ (t ≠ n ∧ isiOk t n false ∧ Q (.bl false))
  | _, _ => False
theorem tyX_of {G : Hp} {x : V} {d : D} {t : String} {H : Hp} (e : Same G H) (f : FR W G x d) (h : tyD d = some t) : TyX W.K H x (.type t) := by
  cases f with
  | non => cases h; exact .base .non
  | bl b => cases h; exact .base (.bl b)
  | int i => cases h; exact .base (.int i)
  | str x => cases h; exact .base (.str x)
  | lst ha _ => cases h; exact .base (.lst (e _ _ ha))
  | tup ha _ =>
    cases h
    rcases ha with (ha | ⟨o, ha⟩) | ⟨o, its, n, hk, hc, _⟩
    · exact .base (.tup (e _ _ ha))
    · exact .fTuple (e _ _ ha)
    · exact .kTuple hk hc
  | _ => cases h
theorem pc_isi : PurC W (rIsi W.K) (p2 pIsi) := pc_2 <| by
  intro G H x y dx dy Q Q' e f1 f2 k h
  unfold pIsi at h
  cases ht : tyD dx with
  | none => rw [ht] at h; exact h.elim
  | some t =>
    rw [ht] at h
    cases f2 <;> first | (exact h.elim) | skip
    have ty := tyX_of (W := W) e f1 ht
    rcases h with ⟨rfl, q⟩ | ⟨hne, hk, q⟩
    · refine ⟨_, _, _, _, true, rfl, .ty _, ty, ?_, k _ _ G H (Grow.refl e) (.bl _) q⟩
      unfold PySem.W.kitOne
      rw [if_pos (by simp)]
    · exact ⟨_, _, _, _, false, rfl, .ty _, ty, hk _, k _ _ G H (Grow.refl e) (.bl _) q⟩
/-- try: x = f(..) except C as e: suite -/
def sTry (ix : Nat) (ps : PSp) (pa : PCA) (C : Addr) (ie : Nat) (suite : Addr → Addr → PTS) : PTS := fun L env => pa env fun as e1 => allRef e1 as ∧ refs as = [] ∧ free e1 ie ∧ free e1 ix ∧
  ps (resolve e1 as) (fun s _ => L.nx (e1.set ix s)) (fun C' fs => C' = C ∧ ∃ f d, fs = [(f, d)] ∧ ∀ a dd, suite a dd { nx := fun e => L.nx (e.set ie .nil), rt := L.rt, bk := fun e => L.bk (e.set ie .nil), ct := fun e => L.ct (e.set ie .nil) } (e1.set ie (.frz (.exc a dd f d))))
theorem ER.gone {i : Nat} (e : ER W Z σ0 H G σ env φ) : ER W Z σ0 H G (σ.set i none) (env.set i .nil) φ :=
  e.part (by simp) (by simp) fun j s hj => by
    by_cases hji : i = j
    · subst hji
      rw [List.getElem?_set_self'] at hj
      cases q : env[i]? with
      | none => rw [q] at hj; cases hj
      | some t => rw [q] at hj; exact .inl (Option.some.inj hj).symm
    · rw [List.getElem?_set_ne hji] at hj ⊢
      exact .inr ⟨hj, rfl⟩
theorem no_refs {as : List CArg} (h : refs as = []) (k : Nat) : argF φ as k = emp := by
  rcases argF_cases (φ := φ) as k with q | ⟨i, q, _⟩
  · exact q
  · have := mem_refs q
    rw [h] at this
    cases this
theorem putBack_none {e : Env} : ∀ {as : List CArg} {os : List Slot}, refs as = [] → putBack e as os = e
  | [], _, _ => by simp [putBack]
  | .val _ :: _, [], _ => by simp [putBack]
  | .val _ :: r, _ :: os, h => by
    simp only [putBack]
    exact putBack_none (as := r) (os := os) h
  | .ref _ :: _, _, h => by simp [refs] at h
theorem purs_try {ix ie : Nat} {ps : PSp} {pa : PCA} {C : Addr} {t : TA} {ts : Addr → Value → Option Addr → TS} {suite : Addr → Addr → PTS} (te : PySem.W.exmOne W.K (.ref C) (.ref C) = some true)
    (h : PurCA W E Xc t pa) (hs : ∀ a dd, PurS W E Xc (ts a (.ref C) (some dd)) (suite a dd)) :
    PurS W E Xc (fun D σ H => tAsg (tCallS (spOf W ps) (WE (wAs W.K (.ref C) ie ts (fun _ _ _ _ => False) D)) t) (gName ix) D σ H) (sTry ix ps pa C ie suite) := by
  intro Z σ0 H G σ env φ D D' e x k q
  refine h Z σ0 H G σ env φ _ _ e x (fun vs as H1 G1 e1 p1 t1 r1 c1 q1 => ?_) q
  obtain ⟨ha, hr, fe, fx, q1⟩ := q1
  have zf : ∀ b, Zn H1 (argF p1 as) b → H1 b = none := fun b hb => by
    rcases hb with hb | ⟨i, hb⟩
    · exact hb
    · rw [no_refs hr] at hb; exact absurd rfl hb
  refine ⟨G1, resolve e1 as, argF p1 as, _, _, r1.enter c1 ha, q1, fun v s F H2 G2 outs ψ t2 r2 f2 q2 => ?_, ?_⟩
  · have r3 := r1.leave c1 ha t2 r2
    rw [putBack_none hr] at r3
    have zz := zn_z (as := as) r1
    have jn0 : jn as ψ p1 = p1 := by
      funext j
      cases hp : posOf as j with
      | none => exact jn_none hp
      | some l =>
        have := mem_refs (posOf_some hp)
        rw [hr] at this
        cases this
    rw [jn0] at r3
    have rr : RR W Z H2 G2 p1 v F s := by
      cases s with
      | frz d => exact f2
      | own d =>
        obtain ⟨a, b, c, d1, d2⟩ := f2
        refine ⟨a, b, fun j y => ?_, d1, fun b hb => zz b (d2 b hb)⟩
        cases hy : F y with
        | none => exact .inr rfl
        | some o => exact .inl ((r1.sub j).free (zf y (d2 y (ne_none_of hy))))
      | tre d =>
        obtain ⟨a, b, c, d1, d2⟩ := f2
        refine ⟨a, b, fun j y => ?_, d1, fun b hb => zz b (d2 b hb)⟩
        cases hy : F y with
        | none => exact .inr rfl
        | some o => exact .inl ((r1.sub j).free (zf y (d2 y (ne_none_of hy))))
      | ptr _ => exact f2
      | nil => exact f2
      | par _ => exact f2
    obtain ⟨φ', r4⟩ := r3.storeR fx rr
    exact k.nx _ H2 G2 _ φ' (t1.trans (t2.weak zz)) r4 q2
  · intro C' f d v dx H3 G3 t3 s3 z3 h3 f3 xc
    obtain ⟨rfl, f', d', e4, q4⟩ := xc
    cases e4
    refine ⟨true, te, fun _ a na => ?_, fun z => by cases z⟩
    have zz := zn_z (as := as) r1
    have t4 : Ext Z G1 H1 G3 H3 := t3.weak zz
    have dn := zf dx z3
    -- the caller's state behind the failed call
    have kp : ∀ j, Same (p1 j) H3 := fun j b o hb => t3.hz b o (r1.sub j b o hb) fun z => by
      have := zf b z
      rw [r1.sub j b o hb] at this
      cases this
    have r3 : ER W Z σ0 H3 G3 σ e1 p1 := by
      refine ⟨r1.len, fun i s h => (r1.sl i s h).mono t3.g, r1.dis, fun i b => ?_, kp, s3, fun b hb => ?_, r1.zs⟩
      · cases hb : p1 i b with
        | none => exact .inr rfl
        | some o =>
          refine .inl ?_
          cases hg : G3 b with
          | none => rfl
          | some u =>
            rcases t3.gz b u hg with w | w
            · rcases r1.dg i b with y | y
              · rw [y] at w; cases w
              · rw [y] at hb; cases hb
            · have := zf b w
              rw [r1.sub i b o hb] at this
              cases this
      · cases hb1 : H1 b with
        | none => exact r1.zn b hb1
        | some o =>
          by_cases hz : Zn H1 (argF p1 as) b
          · exact zz b hz
          · rw [t3.hz b o hb1 hz] at hb; cases hb
    -- the error's own dict is told to all
    let G4 : Hp := upd G3 dx (.xd [(f, v)])
    have sg : Same G3 G4 := fun b o hb => by
      by_cases hbd : b = dx
      · subst hbd
        have := s3 b o hb
        rw [h3] at this
        cases this
        exact upd_same
      · show upd G3 dx _ b = _
        rw [upd_ne hbd]; exact hb
    have r4 : ER W Z σ0 H3 G4 σ e1 p1 := by
      refine ⟨r3.len, fun i s h => (r3.sl i s h).mono sg, r3.dis, fun i b => ?_, r3.sub, fun b o hb => ?_, r3.zn, r3.zs⟩
      · by_cases hbd : b = dx
        · subst hbd
          exact .inr ((r1.sub i).free dn)
        · show upd G3 dx _ b = none ∨ _
          rw [upd_ne hbd]
          exact r3.dg i b
      · by_cases hbd : b = dx
        · subst hbd
          have hb' : upd G3 b (.xd [(f, v)]) b = some o := hb
          rw [upd_same] at hb'
          cases hb'
          exact h3
        · have hb' : upd G3 dx (.xd [(f, v)]) b = some o := hb
          rw [upd_ne hbd] at hb'
          exact s3 b o hb'
    have t5 : Ext Z G3 H3 G4 H3 := ⟨sg, fun b o hb => by
      by_cases hbd : b = dx
      · subst hbd; exact .inr (r1.zn _ dn)
      · have hb' : upd G3 dx (.xd [(f, v)]) b = some o := hb
        rw [upd_ne hbd] at hb'
        exact .inl hb', fun _ _ h _ => h⟩
    have r5 := r4.store (i := ie) (v := .ref a) (d := .exc a dx f d) fe (.exc upd_same (f3.mono sg))
    have tt := (t1.trans t4).trans t5
    refine hs a dx Z σ0 H3 G4 _ _ _ _ { nx := fun e => D'.nx (e.set ie .nil), rt := D'.rt, bk := fun e => D'.bk (e.set ie .nil), ct := fun e => D'.ct (e.set ie .nil) } r5 (x.ext tt) ⟨fun σ' H' G' env' φ' t r w => ?_, (k.ext tt).rt, fun σ' H' G' env' φ' t r w => ?_, fun σ' H' G' env' φ' t r w => ?_⟩ (q4 a dx)
    · exact k.nx _ H' G' _ φ' (tt.trans t) r.gone w
    · exact k.bk _ H' G' _ φ' (tt.trans t) r.gone w
    · exact k.ct _ H' G' _ φ' (tt.trans t) r.gone w
end
end Pu

set_option Elab.async false
set_option linter.all false
set_option maxRecDepth 100000
namespace Pu
open PySem PySem.Spec L2

/-! ### a draw's state: a list of a list of ints and an int -/
def stA : D := .hdl 1 .non
def stB : D := .hdl 2 .non
def rep0 : Nat → Hp → Hp → V → D → Prop := fun n _ F v d => match n with
  | 1 => ∃ (a c : Addr) (cells : List Int) (seed : Int), v = .ref a ∧ d = .non ∧ a ≠ c ∧ F a = some (.lst [.ref c, .int seed]) ∧ F c = some (.lst (cells.map V.int))
  | 2 => ∃ (a c : Addr) (cells : List Int) (idx : Int), v = .ref a ∧ d = .non ∧ a ≠ c ∧ F a = some (.lst [.int idx, .ref c]) ∧ F c = some (.lst (cells.map V.int)) ∧ cells ≠ []
  | _ => False
theorem rep0_mono : ∀ n G G' F v d, Same G G' → rep0 n G F v d → rep0 n G' F v d := fun n G G' F v d _ h => h
theorem rep0_res : ∀ n G F F' v d, (∀ b o, F b = some o → Mut (some o) → F' b = some o) → rep0 n G F v d → rep0 n G F' v d := fun n G F F' v d k h => by
  unfold rep0 at h ⊢
  split at h
  · obtain ⟨a, c, cells, seed, e1, e2, e3, e4, e5⟩ := h
    exact ⟨a, c, cells, seed, e1, e2, e3, k _ _ e4 trivial, k _ _ e5 trivial⟩
  · obtain ⟨a, c, cells, seed, e1, e2, e3, e4, e5, e6⟩ := h
    exact ⟨a, c, cells, seed, e1, e2, e3, k _ _ e4 trivial, k _ _ e5 trivial, e6⟩
  · exact h.elim
abbrev wd (P : Program) (w : World) (K : PySem.W.Frag) : Wd := ⟨P, w, K, rep0, rep0_mono, rep0_res⟩
theorem ints_inj : ∀ {a b : List Int}, a.map D.int = b.map D.int → a = b
  | [], [], _ => rfl
  | [], _ :: _, h => by simp at h
  | _ :: _, [], h => by simp at h
  | x :: xs, y :: ys, h => by
    simp only [List.map_cons, List.cons.injEq, D.int.injEq] at h
    rw [h.1, ints_inj h.2]
theorem ints_vs {W : Wd} {G : Hp} : ∀ {ns : List Int} {vs : List V}, FRs W G vs (ns.map D.int) → vs = ns.map V.int
  | [], vs, h => by cases h; rfl
  | n :: ns, vs, h => by
    cases h with
    | cons h t =>
      cases h
      rw [ints_vs t]
      rfl
section
variable {W : Wd} {E : XK} {Xc : XP} {ta tb : TE} {Z : Addr → Prop} {σ0 : L2.St} {H G H' G' : Hp} {σ : L2.St} {env : Env} {φ : Nat → Hp}
/-- [own list of ints, an int]: a new state -/
def oSt (po : PTO) (pq : PQE) : PTO := fun env Q => po env fun s e1 => match s with
  | .own (.lst ds) => pq e1 fun d => match d with
    | .int n => ∃ ns : List Int, ds = ns.map D.int ∧ Q (.own stA) e1
    | _ => False
  | _ => False
theorem puro_st {P : Program} {w : World} {K : PySem.W.Frag} {po : PTO} {pq : PQE} (h1 : PurO (wd P w K) E Xc ta po) (h2 : PurQ (wd P w K) E Xc tb pq) : PurO (wd P w K) E Xc (tLst (tCons ta (tCons tb tNil))) (oSt po pq) := by
  intro Z σ0 H G σ env φ Q Q' e x k q
  refine h1 Z σ0 H G σ env φ _ _ e x (fun v s F H1 G1 e1 p1 t1 r1 f1 q1 => ?_) q
  cases s with
  | own d =>
    cases d <;> first | (exact q1.elim) | skip
    rename_i ds
    obtain ⟨o1, dj, df, sf, zf⟩ := f1
    cases o1 with
    | @lst c vs _ hc fs =>
      refine h2 _ H1 σ e1 _ _ r1.vw ((x.ext t1).view r1) (fun u d Γ2 H2 g2 f2 q2 => ?_) q1
      cases f2 <;> first | (exact q2.elim) | skip
      rename_i n
      obtain ⟨ns, rfl, q2⟩ := q2
      have ev := ints_vs fs
      subst ev
      refine ⟨by show 2 ≤ sizeLine; decide, fun p hp => ?_⟩
      have r2 := r1.growH g2.h
      have sf2 : Same F H2 := sf.trans g2.h
      obtain ⟨r3, t3, d1, d2, d3, d4⟩ := r2.ownNew (o := .lst [.ref c, .int n]) hp
      have pc : p ≠ c := fun z => by
        subst z
        rw [sf2 p _ hc] at hp
        cases hp
      have pF : F p = none := by
        cases z : F p with
        | none => rfl
        | some o => rw [sf2 p o z] at hp; cases hp
      refine k (.ref p) (.own stA) (un (one p (.lst [.ref c, .int n])) F) _ G1 e1 p1 ((t1.trans (.growH g2.h)).trans t3) r3 ⟨.hdl ⟨p, c, ns, n, rfl, rfl, pc, un_l p _ one_same, ?_⟩, (d1.symm.un dj.symm).symm, fun i => ((d2 i).symm.un (df i).symm).symm, un_sub d3 (sf2.trans (same_upd hp)), fun b hb => ?_⟩ q2
      · unfold un
        rw [one_ne (Ne.symm pc)]
        exact hc
      · by_cases hbp : b = p
        · subst hbp; exact d4 b (by rw [one_same]; exact fun z => nomatch z)
        · have : F b ≠ none := fun z => hb (none_un (one_ne hbp) z)
          exact zf b this
  | _ => exact q1.elim
end

section
variable {W : Wd} {E : XK} {Xc : XP} {ta tb : TE} {Z : Addr → Prop} {σ0 : L2.St} {H G H' G' : Hp} {σ : L2.St} {env : Env} {φ : Nat → Hp}
/-- [an int, own list of ints]: a new state of the other kind -/
def oSu (pq : PQE) (po : PTO) : PTO := fun env Q => pq env fun d => ∃ n : Int, d = .int n ∧ po env fun s e1 => ∃ ns : List Int, s = .own (.lst (ns.map D.int)) ∧ ns ≠ [] ∧ Q (.own stB) e1
theorem puro_su {P : Program} {w : World} {K : PySem.W.Frag} {po : PTO} {pq : PQE} (h2 : PurQ (wd P w K) E Xc tb pq) (h1 : PurO (wd P w K) E Xc ta po) : PurO (wd P w K) E Xc (tLst (tCons tb (tCons ta tNil))) (oSu pq po) := by
  intro Z σ0 H G σ env φ Q Q' e x k q
  refine h2 _ H σ env _ _ e.vw (x.view e) (fun u d Γ1 H1 g1 f1 q1 => ?_) q
  obtain ⟨n, rfl, q1⟩ := q1
  cases f1
  have r1 := e.growH g1.h
  have t1 : Ext Z G H G H1 := .growH g1.h
  refine h1 Z σ0 H1 G σ env φ _ _ r1 (x.ext t1) (fun v s F H2 G2 e2 p2 t2 r2 f2 q2 => ?_) q1
  obtain ⟨ns, rfl, hne, q2⟩ := q2
  obtain ⟨o1, dj, df, sf, zf⟩ := f2
  cases o1 with
  | @lst c vs _ hc fs =>
    have ev := ints_vs fs
    subst ev
    refine ⟨by show 2 ≤ sizeLine; decide, fun p hp => ?_⟩
    obtain ⟨r3, t3, d1, d2, d3, d4⟩ := r2.ownNew (o := .lst [.int n, .ref c]) hp
    have pc : p ≠ c := fun z => by
      subst z
      rw [sf p _ hc] at hp
      cases hp
    refine k (.ref p) (.own stB) (un (one p (.lst [.int n, .ref c])) F) _ G2 e2 p2 ((t1.trans t2).trans t3) r3 ⟨.hdl ⟨p, c, ns, n, rfl, rfl, pc, un_l p _ one_same, ?_, hne⟩, (d1.symm.un dj.symm).symm, fun i => ((d2 i).symm.un (df i).symm).symm, un_sub d3 (sf.trans (same_upd hp)), fun b hb => ?_⟩ q2
    · unfold un
      rw [one_ne (Ne.symm pc)]
      exact hc
    · by_cases hbp : b = p
      · subst hbp; exact d4 b (by rw [one_same]; exact fun z => nomatch z)
      · have : F b ≠ none := fun z => hb (none_un (one_ne hbp) z)
        exact zf b this
end
def psTake : PSp := fun as Q _ => ∃ many, as = [.par stB, .frz (.int many)] ∧ many < 1073741824 ∧ ∀ v, 0 ≤ v → (v < many ∨ v = 0) → Q (.frz (.int v)) [.par stB, .nil]
/-! ### drawing: any value below many, and a new state -/
def psDraw : PSp := fun as Q _ => ∃ many, as = [.par stA, .frz (.int many)] ∧ many < 1073741824 ∧ ∀ v, 0 ≤ v → (v < many ∨ v = 0) → Q (.frz (.int v)) [.par stA, .nil]

/-! ### defs as the head tells them -/
abbrev FnP (K : PySem.W.Frag) (x qual : Str) (st : Stmt) (f : Addr) (fd : FuncData) : Prop := FunD K x qual (defArgs st) (defBody st) (defScope st) [] [] f fd
section
variable {P : Program} {w : World} {K : PySem.W.Frag} {mg : Str → Option Value} {base : Heap} {x qual : Str} {st : Stmt} {f : Addr} {fd : FuncData} {N pn : List Str} {k : Nat} {psp : PSp} {rep : Nat → Hp → Hp → V → D → Prop} {mono : ∀ n G G' F v d, Same G G' → rep n G F v d → rep n G' F v d} {res : ∀ n G F F' v d, (∀ b o, F b = some o → Mut (some o) → F' b = some o) → rep n G F v d → rep n G F' v d}
theorem sp_len {W : Wd} (hl : ∀ as Q Xc, psp as Q Xc → as.length = pn.length) : ∀ vs H Q E, spOf W psp vs H Q E → vs.length = pn.length := fun vs H Q E h => by
  obtain ⟨G, as, φ, Q', Xc, e, q, _⟩ := h
  have := e.len.1
  rw [List.length_map, hl _ _ _ q] at this
  exact this
/-- one that raises nothing -/
theorem FnP.pure0 (F : FnP K x qual st f fd) (S : FnScope N pn (defScope st)) (hN : pn.length ≤ N.length) (hl : ∀ as Q Xc, psp as Q Xc → as.length = pn.length)
    (hbody : ∀ (cdv : Value) (A : Around) (outer : List PySem.Env) (s : Shared) (H : Hp) (E : XK), Room k (A.deeper (PyProof.Rows.envOfC qual (defScope st) s.heap.objs.size f cdv)) →
      ∃ t p, PSs (cxOf CX0 P w K mg base N qual (defScope st) f cdv A outer s H E).nox (defBody st) t ∧ PurS ⟨P, w, K, rep, mono, res⟩ E0 NoX t p ∧ ∀ as Q X', psp as Q X' → p (ends pn.length Q) (as ++ nils (N.length - as.length))) :
    FnOk P w K mg base CX0 (k + 1) f fd pn (spOf ⟨P, w, K, rep, mono, res⟩ psp) := by
  refine F.ok S (sp_len hl) (fun cdv A outer s H vs Q E hr h => ?_)
  obtain ⟨t, p, hs, hp, hb⟩ := hbody cdv A outer s H E hr
  obtain ⟨G, as, φ, Q', Xc, e, q, k, _⟩ := h
  exact ⟨t, hs.nox, body_ok hp hN (hl _ _ _ q) e xok0 (hb _ _ _ q) k⟩
/-- one that may raise -/
theorem FnP.pureX (F : FnP K x qual st f fd) (S : FnScope N pn (defScope st)) (hN : pn.length ≤ N.length) (hl : ∀ as Q Xc, psp as Q Xc → as.length = pn.length)
    (hbody : ∀ (cdv : Value) (A : Around) (outer : List PySem.Env) (s : Shared) (H : Hp) (E : XK), Room k (A.deeper (PyProof.Rows.envOfC qual (defScope st) s.heap.objs.size f cdv)) →
      ∃ t, PSs (cxOf (L2.CX P w) P w K mg base N qual (defScope st) f cdv A outer s H E) (defBody st) t ∧ ∀ Xc, ∃ p, PurS ⟨P, w, K, rep, mono, res⟩ E Xc t p ∧ ∀ as Q, psp as Q Xc → p (ends pn.length Q) (as ++ nils (N.length - as.length))) :
    FnOk P w K mg base (L2.CX P w) (k + 1) f fd pn (spOf ⟨P, w, K, rep, mono, res⟩ psp) := by
  refine F.ok S (sp_len hl) (fun cdv A outer s H vs Q E hr h => ?_)
  obtain ⟨t, hs, hp⟩ := hbody cdv A outer s H E hr
  obtain ⟨G, as, φ, Q', Xc, e, q, k, x⟩ := h
  obtain ⟨p, hp, hb⟩ := hp Xc
  exact ⟨t, hs, body_ok hp hN (hl _ _ _ q) e x (hb _ _ q) k⟩
end
/-- a def that may be called -/
structure Cal (P : Program) (w : World) (K : PySem.W.Frag) (mg : Str → Option Value) (base : Heap) (CX : CXT) (lv : Nat) (x : Str) (pn : List Str) (sp : Sp) (f : Addr) (fd : FuncData) : Prop where
  ok : FnOk P w K mg base CX lv f fd pn sp
  b : Binds K fd pn []
  g : mg x = some (.ref f)
  k : PySem.W.keepIn K (.ref f) = true

/-! ### facts of error classes, as one Bool -/
def oexB (K : PySem.W.Frag) (C : Addr) : Bool := match K.lookup C with
  | some ⟨.type "type", _, .cls cd, sl⟩ => (match cd.mro, sl.toList with
    | .ref C' :: bm, [_, _, _, _, some (.builtin n), _] => C' == C && n == "ValueError.__new__" && !cd.hasDel && cd.hasDict && PySem.HandSPX.refsVE bm
    | _, _ => false)
  | _ => false
theorem oexB_ok {K : PySem.W.Frag} {C : Addr} (q : oexB K C = true) : ∃ nm q N bs bm sn sub ab col dd k0 k1 k2 k3 k5, K.lookup C = some (excClassObj nm q C N bs bm true sn sub ab col dd k0 k1 k2 k3 k5 "ValueError.__new__") ∧ PySem.HandSPX.refsVE bm = true := by
  unfold oexB at q
  split at q
  · rename_i dd cd sl ho
    split at q
    · rename_i C' bm k0 k1 k2 k3 n k5 hm hs
      simp only [Bool.and_eq_true, beq_iff_eq, Bool.not_eq_true'] at q
      obtain ⟨⟨⟨⟨rfl, rfl⟩, hdel⟩, hdict⟩, ht⟩ := q
      obtain ⟨nm, bs, mro, ns, qn, hd, sn, sub, ab, col, del⟩ := cd
      dsimp only at hm hdel hdict
      subst hm hdel hdict
      have hsl : sl = #[k0, k1, k2, k3, some (.builtin "ValueError.__new__"), k5] := by
        obtain ⟨l⟩ := sl
        simp only at hs
        rw [hs]
      subst hsl
      exact ⟨nm, qn, ns, bs, bm, sn, sub, ab, col, dd, k0, k1, k2, k3, k5, ho, ht⟩
    · cases q
  · cases q
def eqA {α : Type} [DecidableEq α] (a b : α) : Bool := decide (a = b)
def fvB (a : Option PySem.W.CFound) (v : Value) : Bool := match a with
  | some (.val u) => decide (u = v)
  | _ => false
theorem fvB_ok {a : Option PySem.W.CFound} {v : Value} (h : fvB a v = true) : a = some (.val v) := by
  unfold fvB at h
  split at h
  · rw [of_decide_eq_true h]
  · cases h
/-- all that an error class x over y with the attribute f must say -/
def errB (K : PySem.W.Frag) (x y f : Str) : Bool :=
  eqA (PySem.W.nsIn K mainGlobals x) (some (some (.ref (He.ga K x)))) && (eqA (PySem.W.nsIn K mainGlobals y) (some (some (.ref (He.ga K y)))) && (oexB K (He.ga K x) &&
  (eqA (PySem.W.findIn K (.ref (He.ga K x)) "__setattr__") (some (some (.builtin "object.__setattr__"))) && (eqA (PySem.W.subIn K (.ref (He.ga K x)) (.type "BaseException")) (some true) && (eqA (PySem.W.typeIn K (.ref (He.ga K x))) (some (.type "type")) && (PySem.W.keepIn K (.ref (He.ga K x)) &&
  (eqA (PySem.W.nsIn K cStatics "thirdparty.any") (some none) && (eqA (PySem.W.typeIn K (.ref (He.ga K y))) (some (.type "type")) && (fvB (PySem.W.findCls K (.ref (He.ga K y)) (.type "type") "__init__") (.builtin "ValueError.__init__") &&
  (eqA (PySem.W.findIn K (.ref (He.ga K x)) f) (some none) && (eqA (PySem.W.findIn K (.ref (He.ga K x)) "__init__") (some (some (.ref (He.ma K (He.ga K x) "__init__")))) && (eqA (PySem.W.typeIn K (.ref (He.ma K (He.ga K x) "__init__"))) (some (.type "function")) &&
  (xfB K (He.ga K x) && (eqA (PySem.W.findIn K (.ref (He.ga K x)) "__class__") (some (some (.builtin "object.__class__"))) && (eqA (PySem.W.specialIn K (.builtin "object.__class__") "__get__") (some (some (.builtin "getset_descriptor.__get__"))) && (eqA (PySem.W.takesIn K (.builtin "object.__class__")) (some true) &&
  (eqA (PySem.W.mroIn K (He.ga K x) (.type "object")) (some true) && (eqA (PySem.W.exmOne K (.ref (He.ga K x)) (.ref (He.ga K x))) (some true) && eqA (PySem.W.kitOne K (.ref (He.ga K x)) (.ref (He.ga K y))) (some true)))))))))))))))))))
theorem errB_ok {K : PySem.W.Frag} {h : Heap} {mg : Str → Option Value} (X : K.In h) (Gn : h.Ns mainGlobals mg) {x y f : Str} (q : errB K x y f = true) :
    ErrC K mg (He.ga K x) (He.ma K (He.ga K x) "__init__") (He.ga K y) x y f ∧ PySem.W.kitOne K (.ref (He.ga K x)) (.ref (He.ga K y)) = some true := by
  unfold errB eqA at q
  simp only [Bool.and_eq_true, decide_eq_true_eq] at q
  obtain ⟨h1, h2, h3, h4, h5, h6, h7, h8, h9, h10, h11, h12, h13, h14, h15, h16, h17, h18, h19, h20⟩ := q
  have xf := xfB_ok h14
  exact ⟨⟨PySem.W.mg_of X Gn h1, PySem.W.mg_of X Gn h2, ⟨oexB_ok h3, h4, h5, h6, h7⟩, h8, h9, fvB_ok h10, h11, h12, h13, xf, ⟨xf.ga, xf.gg, h5, xf.hdC, h15, h16, h17, h18⟩, h19⟩, h20⟩

/-! ### the Hook -/
abbrev AlE : Type := He.AlD × Bool
def obsEG (n : Nat) (fa : List He.Fa) (fn : List He.DefD) (ex : PySem.W.Frag → Bool) (g : Addr → Option Obj) : AlE := (He.obsD fa fn (He.frG g (cStatics :: He.asD g n)), ex (He.frG g (cStatics :: He.asD g n)))
def hookE (n : Nat) (fa : List He.Fa) (fn : List He.DefD) (ex : PySem.W.Frag → Bool) : PySem.W.Hook where
  α := AlE
  obs := fun s => obsEG n fa fn ex s.heap.get?
  val := fun _ => (He.valD fn, true)
  says := fun _ h => ∃ K : PySem.W.Frag, K.In h ∧ He.SaysD fa fn K ∧ ex K = true
  of := fun _ _ e => ⟨_, He.frG_in, congrArg (fun z : AlE => z.1) e, congrArg (fun z : AlE => z.2) e⟩
  keeps := fun _ _ _ ⟨K, hK, c⟩ k => ⟨K, PySem.W.Frag.In.keeps hK k, c⟩
theorem obsEG_eq {n : Nat} {fa : List He.Fa} {fn : List He.DefD} {ex : PySem.W.Frag → Bool} {g : Addr → Option Obj} {s : Shared} (h : ∀ a, g a = s.heap.get? a) : obsEG n fa fn ex g = (hookE n fa fn ex).obs s := by
  have e : g = s.heap.get? := funext h
  rw [e] <;> rfl

/-! ### the law's own promise -/
def psLaw : PSp := fun as Q _ => ∃ ns : List Int, as = [.frz (.scr ns)] ∧ ns.length ≤ 63 ∧ Q (.frz (.bl true)) [.nil]
theorem law_sp {W : Wd} {H : Hp} {a : Addr} {ns : List Int} (hl : ns.length ≤ 63) (h : SqL W.K H a (ns.map V.int)) : spOf W psLaw [.ref a] H (fun v _ => v = .bl true) fun _ _ _ => False := by
  refine ⟨H, [.frz (.scr ns)], fun _ => emp, fun s _ => s = .frz (.bl true), NoX, ⟨⟨rfl, rfl⟩, fun i s e => ?_, fun _ _ _ => Dis.emp, fun _ => Dis.emp, fun _ _ _ z => (nomatch z), Same.refl _, fun b hb => .inl hb, fun _ b hb => absurd rfl hb⟩, ⟨ns, rfl, hl, rfl⟩, fun v s F H' G' outs ψ t r f q => ?_, fun _ _ _ _ _ _ _ _ _ _ _ _ z => z.elim⟩
  · cases i with
    | zero =>
      simp at e
      subst e
      exact ⟨.ref a, rfl, .scr h⟩
    | succ i => simp at e
  · subst q
    cases f
    rfl
end Pu

set_option Elab.async false
set_option linter.all false
set_option maxRecDepth 100000
namespace Pu
open PySem PySem.Spec L2
section
variable {W : Wd} {E : XK} {Xc : XP} {ta tb tc te : TE} {tt tu : TT} {Z : Addr → Prop} {σ0 : L2.St} {H G H' G' : Hp} {σ : L2.St} {env : Env} {φ : Nat → Hp}
/-! ### a call in a look -/
def asQ (Q : D → Prop) : Slot → Prop
  | .frz d => Q d
  | .own d => d.sol = true ∧ Q d
  | .tre t => Q t.er
  | _ => False
def qCall (ps : PSp) (pa : PQA) : PQE := fun env Q => pa env fun ds => ps (ds.map .frz) (fun s _ => asQ Q s) NoX
theorem er_vals {vs : List V} {ds : List D} (f : FRs W G vs ds) (s : Same G H) : ER W (Zn H fun _ => emp) (vs.map some) H G (vs.map some) (ds.map .frz) fun _ => emp where
  len := ⟨by rw [List.length_map, List.length_map, f.length], rfl⟩
  sl := fun i t h => by
    rw [List.getElem?_map] at h
    cases q : ds[i]? with
    | none => rw [q] at h; cases h
    | some d =>
      rw [q] at h
      cases h
      obtain ⟨v, h1, h2⟩ := f.get q
      exact ⟨v, by rw [List.getElem?_map, h1]; rfl, h2⟩
  dis := fun _ _ _ => Dis.emp
  dg := fun _ => Dis.emp
  sub := fun _ _ _ z => nomatch z
  gh := s
  zn := fun b h => .inl h
  zs := fun _ b h => absurd rfl h
theorem zn_emp {b : Addr} (h : Zn H (fun _ => emp) b) : H b = none := h.elim id fun ⟨_, z⟩ => absurd rfl z
theorem purq_call {ps : PSp} {t : TA} {pa : PQA} (h : PurQA W E Xc t pa) : PurQ W E Xc (tCall (spOf W ps) [] E0 t) (qCall ps pa) := by
  intro Γ H σ env Q Q' v x k q
  refine h Γ H σ env _ _ v x (fun vs ds Γ1 H1 g1 f1 q1 => ?_) q
  rw [List.append_nil]
  refine ⟨Γ1, ds.map .frz, fun _ => emp, _, NoX, er_vals f1 g1.gh, q1, fun u s F H2 G2 outs ψ t2 r2 f2 q2 => ?_, xok0⟩
  have g2 : Grow Γ1 H1 G2 H2 := ⟨t2.g, fun b o hb => t2.hz b o hb (fun z => absurd ((zn_emp z).symm.trans hb) (fun y => nomatch y)), fun b o hb => (t2.gz b o hb).imp id zn_emp, r2.gh⟩
  cases s with
  | frz d => exact k u d G2 H2 (g1.trans g2) f2 q2
  | own d =>
    obtain ⟨a, b, c, d1, d2⟩ := f2
    have f := a.freeze q2.1 b
    have g3 : Grow Γ1 H1 (un G2 F) H2 := ⟨g2.g.trans un_l, g2.h, fun b o hb => by
      rcases un_cases hb with hb | ⟨_, hb⟩
      · exact g2.n b o hb
      · exact .inr (zn_emp (d2 b (ne_none_of hb))), un_sub g2.gh d1⟩
    exact k u d _ H2 (g1.trans g3) f q2.2
  | tre t =>
    obtain ⟨a, b, c, d1, d2⟩ := f2
    have f := a.freeze b
    have g3 : Grow Γ1 H1 (un G2 F) H2 := ⟨g2.g.trans un_l, g2.h, fun b o hb => by
      rcases un_cases hb with hb | ⟨_, hb⟩
      · exact g2.n b o hb
      · exact .inr (zn_emp (d2 b (ne_none_of hb))), un_sub g2.gh d1⟩
    exact k u _ _ H2 (g1.trans g3) f q2
  | ptr _ => exact q2.elim
  | nil => exact q2.elim
  | par _ => exact q2.elim
def qChain (p p' : D → D → (D → Prop) → Prop) (pa pb pc : PQE) : PQE := fun env Q => pa env fun x => pb env fun y => p x y (asB fun c => if c = true then pc env fun z => p' y z Q else Q (.bl false))
theorem purq_chain {r r' : R2} {p p' : D → D → (D → Prop) → Prop} {pa pb pc : PQE} (hr : PurR2 W r p) (hr' : PurR2 W r' p') (ha : PurQ W E Xc ta pa) (hb : PurQ W E Xc tb pb) (hc : PurQ W E Xc tc pc) :
    PurQ W E Xc (tChain r r' ta tb tc) (qChain p p' pa pb pc) := by
  intro Γ H σ env Q Q' v x k h
  refine ha Γ H σ env _ _ v x (fun v1 d1 G1 H1 g1 f1 q1 => ?_) h
  refine hb G1 H1 σ env _ _ (v.grow g1) (x.grow g1) (fun v2 d2 G2 H2 g2 f2 q2 => ?_) q1
  refine hr G2 H2 v1 v2 d1 d2 _ _ g2.gh (f1.mono g2.g) f2 (fun v3 d3 G3 H3 g3 f3 q3 => ?_) q2
  obtain ⟨c, e1, e2, q3⟩ := asB_of f3 q3
  refine ⟨c, e1, ?_⟩
  cases c with
  | false =>
    rw [if_neg Bool.false_ne_true] at q3 ⊢
    exact k _ _ G3 H3 ((g1.trans g2).trans g3) (.bl false) q3
  | true =>
    rw [if_pos rfl] at q3 ⊢
    refine hc G3 H3 σ env _ _ (((v.grow g1).grow g2).grow g3) (((x.grow g1).grow g2).grow g3) (fun v4 d4 G4 H4 g4 f4 q4 => ?_) q3
    exact hr' G4 H4 v2 v4 d2 d4 _ _ g4.gh ((f2.mono g3.g).mono g4.g) f4 (fun v5 d5 G5 H5 g5 f5 q5 => k v5 d5 G5 H5 ((((g1.trans g2).trans g3).trans g4).trans g5) f5 q5) q4
theorem purqt_chain {r r' : R2} {p p' : D → D → (D → Prop) → Prop} {pa pb pc : PQE} (hr : PurR2 W r p) (hr' : PurR2 W r' p') (ha : PurQ W E Xc ta pa) (hb : PurQ W E Xc tb pb) (hc : PurQ W E Xc tc pc) :
    PurQT W E Xc (tTest (tChain r r' ta tb tc)) (qB (qChain p p' pa pb pc)) := purqt_test (purq_chain hr hr' ha hb hc)
/-! ### xs[i], xs a slot -/
def lkX : Option Slot → Option D
  | some (.frz d) => some d
  | some (.own (.lst ds)) => some (.lst ds)
  | some (.par (.lst ds)) => some (.lst ds)
  | _ => none
def eIxV (i : Nat) (pq : PQE) : PTE := fun env Q => ∃ d, lkX (env[i]?) = some d ∧ pq env fun k => pIx d k fun r => Q r env
theorem pure_ixv {i : Nat} {pq : PQE} (h : PurQ W E Xc te pq) : PurE W E Xc (tOp (rIx W.K) (tVar i) te) (eIxV i pq) := by
  intro Z σ0 H G σ env φ Q Q' e x k q
  have own : ∀ (s : Slot) ds, env[i]? = some s → asL s = some ds → (pq env fun k => pIx (.lst ds) k fun r => Q' r env) → tOp (rIx W.K) (tVar i) te σ H Q := by
    intro s ds hs hl q
    obtain ⟨a, vs, h1, h2, h3, _⟩ := e.mutL hs hl
    refine ⟨.ref a, h1, ?_⟩
    refine h _ H σ env _ _ e.vw (x.view e) (fun u d Γ1 H1 g1 f1 q1 => ?_) q
    cases f1 <;> first | (exact q1.elim) | skip
    simp only [pIx] at q1
    split at q1
    · rename_i r hr
      obtain ⟨v, hv, fv⟩ := atI_frs h3 hr
      exact .inl ⟨_, _, _, v, rfl, rfl, SqL.of (g1.h _ _ h2), hv, k v r H1 G env φ (.growH g1.h) (e.growH g1.h) fv q1⟩
    · exact q1.elim
  obtain ⟨d0, hl, q⟩ := q
  unfold lkX at hl
  split at hl
  · rename_i d hd
    cases hl
    obtain ⟨v, h1, f⟩ := e.sl i _ hd
    refine ⟨v, h1, ?_⟩
    refine h _ H σ env _ _ e.vw (x.view e) (fun u dk Γ1 H1 g1 f1 q1 => ?_) q
    have hk : ∃ n, dk = .int n := by
      cases d0 <;> cases dk <;> first | (exact q1.elim) | exact ⟨_, rfl⟩
    obtain ⟨n, rfl⟩ := hk
    have fu : FR W G u (.int n) := by cases f1; exact .int n
    refine pr_ix G H1 v u d0 (.int n) _ _ (e.gh.trans g1.h) f fu (fun v2 d2 G2 H2 g2 f2 q2 => ?_) q1
    have r1 := e.growH g1.h
    obtain ⟨r2, t2⟩ := r1.grow g2
    exact k v2 d2 H2 G2 env φ ((Ext.growH g1.h).trans t2) r2 f2 q2
  · rename_i ds hd
    cases hl
    exact own _ ds hd rfl q
  · rename_i ds hd
    cases hl
    exact own _ ds hd rfl q
  · cases hl
/-! ### tests with effects -/
variable {pt pu : PTT}
def eAnd (p u : PTT) : PTT := fun env Q => p env fun c e1 => if c = true then u e1 Q else Q false e1
theorem purt_and (h1 : PurT W E Xc tt pt) (h2 : PurT W E Xc tu pu) : PurT W E Xc (tAnd tt tu) (eAnd pt pu) := by
  intro Z σ0 H G σ env φ Q Q' e x k q
  refine h1 Z σ0 H G σ env φ _ _ e x (fun b H1 G1 e1 p1 t1 r1 q1 => ?_) q
  cases b with
  | true =>
    rw [if_pos rfl] at q1 ⊢
    exact h2 Z σ0 H1 G1 σ e1 p1 _ _ r1 (x.ext t1) (fun b H2 G2 e2 p2 t2 r2 q2 => k b H2 G2 e2 p2 (t1.trans t2) r2 q2) q1
  | false =>
    rw [if_neg Bool.false_ne_true] at q1 ⊢
    exact k false H1 G1 e1 p1 t1 r1 q1
def eOr (p u : PTT) : PTT := fun env Q => p env fun c e1 => if c = true then Q true e1 else u e1 Q
theorem purt_or (h1 : PurT W E Xc tt pt) (h2 : PurT W E Xc tu pu) : PurT W E Xc (tOr tt tu) (eOr pt pu) := by
  intro Z σ0 H G σ env φ Q Q' e x k q
  refine h1 Z σ0 H G σ env φ _ _ e x (fun b H1 G1 e1 p1 t1 r1 q1 => ?_) q
  cases b with
  | false =>
    rw [if_neg Bool.false_ne_true] at q1 ⊢
    exact h2 Z σ0 H1 G1 σ e1 p1 _ _ r1 (x.ext t1) (fun b H2 G2 e2 p2 t2 r2 q2 => k b H2 G2 e2 p2 (t1.trans t2) r2 q2) q1
  | true =>
    rw [if_pos rfl] at q1 ⊢
    exact k true H1 G1 e1 p1 t1 r1 q1
def eNot (p : PTT) : PTT := fun env Q => p env fun c e1 => Q (!c) e1
theorem purt_not (h1 : PurT W E Xc tt pt) : PurT W E Xc (tNot tt) (eNot pt) := by
  intro Z σ0 H G σ env φ Q Q' e x k q
  exact h1 Z σ0 H G σ env φ _ _ e x (fun b H1 G1 e1 p1 t1 r1 q1 => k _ H1 G1 e1 p1 t1 r1 q1) q
/-! ### list(..) -/
def pList : D → (D → Prop) → Prop
  | .lst xs, Q => Q (.lst xs)
  | .tup xs, Q => Q (.lst xs)
  | .scr ns, Q => Q (.lst (ns.map D.int))
  | _, _ => False
theorem pc_list : PurC W (fun xs H Q => ∃ p ys, xs = [.ref p] ∧ (SqL W.K H p ys ∨ SqT W.K H p ys) ∧ ∀ l, H l = none → Q (.ref l) (upd H l (.lst ys))) (p1 pList) := pc_1 <| by
  intro G H x d Q Q' e f k h
  have fin : ∀ vs ds, FRs W G vs ds → Q' (.lst ds) → ∀ l, H l = none → Q (.ref l) (upd H l (.lst vs)) := fun vs ds t h l hl => by
    have g := Grow.new (o := .lst vs) e hl
    exact k _ _ _ _ g (.lst upd_same (t.mono g.g)) h
  cases f with
  | lst hs t => exact ⟨_, _, rfl, .inl (SqL.of (e _ _ hs)), fin _ _ t h⟩
  | tup hs t => exact ⟨_, _, rfl, .inr (sqt_mono e hs), fin _ _ t h⟩
  | scr hs => exact ⟨_, _, rfl, .inl (e.seq hs), fin _ _ (frs_ints _) h⟩
  | _ => exact h.elim
end
end Pu

set_option Elab.async false
set_option linter.all false
set_option maxRecDepth 100000
namespace Pu
open PySem PySem.Spec L2
theorem ifT {p q : Prop} (h : p) : if (true = true) then p else q := by rw [if_pos rfl]; exact h
theorem ifF {p q : Prop} (h : q) : if (false = true) then p else q := by rw [if_neg Bool.false_ne_true]; exact h
abbrev rEqA (K : PySem.W.Frag) : R2 := fun x y H Q => rEq x y H Q ∨ rEqD K x y H Q
abbrev rInt1 : List V → Hp → VK → Prop := fun xs H Q => (∃ i, xs = [.int i] ∧ Q (.int i) H) ∨ ∃ k, xs = [.bl k] ∧ Q (.int (if k then 1 else 0)) H
abbrev rLt0 : R2 := rI0 fun i j => .bl (decide (i < j))
abbrev rGt0 : R2 := rI0 fun i j => .bl (decide (j < i))
abbrev rMod0 : R2 := rI (fun _ j => 0 < j) fun i j => .int (i % j)
abbrev rDiv0 : R2 := rI CDiv fun i j => .int (i / j)
abbrev rLenA (K : PySem.W.Frag) : List V → Hp → VK → Prop := fun xs H Q => ∃ x n, xs = [x] ∧ LenV K x H n ∧ Q (.int n) H
abbrev i0 (n : Int) : TE := tC (.int n)
/-- what _law_draw does -/
def t_draw (K : PySem.W.Frag) : TS :=
  tSeq (tIfS (tTest (tOp rLt0 (tVar 1) (i0 1))) (tRet (i0 0)) tNext)
  (tSeq (tAsg (tOp (rIx K) (tVar 0) (i0 0)) (gName 2))
  (tSeq (tWhile (tAnd (tTest (tOp rGt0 (tCB (rLenA K) (tCons (tVar 2) tNil)) (i0 0))) (tTest (tOp (rEqA K) (tOp (rIx K) (tVar 2) (i0 0)) (i0 0)))) (tDrop (tBM K "list" rPopAt (tVar 2) (tCons (i0 0) tNil))))
  (tSeq (tIfS (tTest (tOp rGt0 (tCB (rLenA K) (tCons (tVar 2) tNil)) (i0 0)))
    (tSeq (tAsg (tOp (rIx K) (tVar 2) (i0 0)) (gName 3))
    (tSeq (tAsg (tOp rDiv0 (tVar 3) (tVar 1)) (gSub (tVar 2) (i0 0) rSetL))
    (tRet (tOp rMod0 (tCB rInt1 (tCons (tVar 3) tNil)) (tVar 1))))) tNext)
  (tSeq (tAsg (tOp rMod0 (tCB rInt1 (tCons (tOp (rPlus K) (tOp rTimes (tOp (rIx K) (tVar 0) (i0 1)) (i0 48271)) (i0 12345)) tNil)) (i0 2147483647)) (gName 4))
  (tSeq (tAsg (tVar 4) (gSub (tVar 0) (i0 1) rSetL))
  (tRet (tOp rMod0 (tCB rInt1 (tCons (tOp rDiv0 (tVar 4) (i0 64)) tNil)) (tVar 1))))))))
section
variable {P : Program} {w : World} {K : PySem.W.Frag} {Z : Addr → Prop} {σ0 : L2.St} {H G H' G' : Hp} {σ : L2.St} {env : Env} {φ : Nat → Hp}
theorem drop_zero {cells : List Int} : cells.dropWhile (· == 0) = [] ∨ ∃ v r, cells.dropWhile (· == 0) = v :: r ∧ v ≠ 0 := by
  induction cells with
  | nil => exact .inl rfl
  | cons c cs ih =>
    by_cases h : c = 0
    · subst h; simpa using ih
    · exact .inr ⟨c, cs, by simp [h], h⟩
/-- the state at a, c is another, all else stands -/
theorem draw_out {a c : Addr} {cells2 : List Int} {la : List V} {many : Int} {st : D} (hr : ∀ F : Hp, F a = some (.lst la) → F c = some (.lst (cells2.map V.int)) → OR (wd P w K) G F (.ref a) st)
    (e : ER (wd P w K) (Zn H φ) [some (.ref a), some (.int many)] H G [some (.ref a), some (.int many)] [.par st, .frz (.int many)] φ)
    (ha : φ 0 a ≠ none) (hc : φ 0 c ≠ none) (hac : a ≠ c) {H2 : Hp} (h1 : H2 a = some (.lst la)) (h2 : H2 c = some (.lst (cells2.map V.int))) (h3 : ∀ b, b ≠ a → b ≠ c → H2 b = H b) :
    Ext (Zn H φ) G H G H2 ∧ ER (wd P w K) (Zn H φ) [some (.ref a), some (.int many)] H2 G [some (.ref a), some (.int many)] [.par st, .nil]
      (fun j => if j = 0 then un (one a (.lst la)) (one c (.lst (cells2.map V.int))) else φ j) := by
  have za := e.zs 0 a ha
  have zc := e.zs 0 c hc
  have oa : ∀ j, j ≠ 0 → φ j a = none := fun j hj => (e.dis j 0 hj a).resolve_right ha
  have oc : ∀ j, j ≠ 0 → φ j c = none := fun j hj => (e.dis j 0 hj c).resolve_right hc
  have ga : G a = none := (e.dg 0 a).resolve_right ha
  have gc : G c = none := (e.dg 0 c).resolve_right hc
  have fa : H a ≠ none := by
    cases q : φ 0 a with
    | none => exact absurd q ha
    | some o => rw [e.sub 0 a o q]; exact fun z => nomatch z
  have fc : H c ≠ none := by
    cases q : φ 0 c with
    | none => exact absurd q hc
    | some o => rw [e.sub 0 c o q]; exact fun z => nomatch z
  let F : Hp := un (one a (.lst la)) (one c (.lst (cells2.map V.int)))
  have Fa : F a = some (.lst la) := un_l a _ one_same
  have Fc : F c = some (.lst (cells2.map V.int)) := by
    show un _ _ c = _
    unfold un
    rw [one_ne (Ne.symm hac)]
    exact one_same
  have Fo : ∀ b, b ≠ a → b ≠ c → F b = none := fun b p q => none_un (one_ne p) (one_ne q)
  have Fn : ∀ b, F b ≠ none → b = a ∨ b = c := fun b h => by
    by_cases p : b = a
    · exact .inl p
    · by_cases q : b = c
      · exact .inr q
      · exact absurd (Fo b p q) h
  refine ⟨⟨Same.refl _, fun _ _ h => .inl h, fun b o h n => ?_⟩, ⟨⟨rfl, rfl⟩, fun i s hs => ?_, fun i j hij => ?_, fun i => ?_, fun i => ?_, fun b o h => ?_, fun b h => ?_, fun i b h => ?_⟩⟩
  · rw [h3 b (fun z => n (z ▸ za)) (fun z => n (z ▸ zc))]
    exact h
  · match i, hs with
    | 0, hs =>
      simp at hs
      subst hs
      exact ⟨.ref a, rfl, rfl, hr _ Fa Fc⟩
    | 1, hs =>
      simp at hs
      subst hs
      exact trivial
    | n + 2, hs => simp at hs
  · have d1 : ∀ m, m ≠ 0 → Dis (φ m) F := fun m hm b => by
      by_cases p : b = a
      · subst p; exact .inl (oa m hm)
      · by_cases q : b = c
        · subst q; exact .inl (oc m hm)
        · exact .inr (Fo b p q)
    by_cases hi : i = 0
    · by_cases hj : j = 0
      · exact absurd (hi.trans hj.symm) hij
      · simp only [if_pos hi, if_neg hj]
        exact (d1 j hj).symm
    · by_cases hj : j = 0
      · simp only [if_neg hi, if_pos hj]
        exact d1 i hi
      · simp only [if_neg hi, if_neg hj]
        exact e.dis i j hij
  · by_cases hi : i = 0
    · simp only [if_pos hi]
      intro b
      by_cases p : b = a
      · subst p; exact .inl ga
      · by_cases q : b = c
        · subst q; exact .inl gc
        · exact .inr (Fo b p q)
    · simp only [if_neg hi]; exact e.dg i
  · by_cases hi : i = 0
    · simp only [if_pos hi]
      intro b o h
      have h' : F b = some o := h
      rcases Fn b (by rw [h']; exact fun z => nomatch z) with p | q
      · subst p; rw [Fa] at h'; rw [h1]; exact h'
      · subst q; rw [Fc] at h'; rw [h2]; exact h'
    · simp only [if_neg hi]
      intro b o h
      rw [h3 b (fun z => by subst z; rw [oa i hi] at h; cases h) (fun z => by subst z; rw [oc i hi] at h; cases h)]
      exact e.sub i b o h
  · rw [h3 b (fun z => by subst z; rw [ga] at h; cases h) (fun z => by subst z; rw [gc] at h; cases h)]
    exact e.gh b o h
  · by_cases p : b = a
    · subst p; rw [h1] at h; cases h
    · by_cases q : b = c
      · subst q; rw [h2] at h; cases h
      · rw [h3 b p q] at h; exact .inl h
  · by_cases hi : i = 0
    · simp only [if_pos hi] at h
      rcases Fn b h with p | q
      · rw [p]; exact za
      · rw [q]; exact zc
    · simp only [if_neg hi] at h
      exact e.zs i b h
theorem atI0 {α : Type} {x : α} {xs : List α} : atI (x :: xs) 0 = some x := by
  simp [atI, ixN]
theorem eqA0 {v : Int} {H : Hp} {Q : VK} (h : Q (.bl (decide (v = 0))) H) : rEqA K (.int v) (.int 0) H Q := .inl ⟨rfl, by
  have : decide (V.int v = V.int 0) = decide (v = 0) := by simp
  rw [this]; exact h⟩
theorem draw_read {N : List Str} (hN : N.length = 5) (vs : List V) (H : Hp) (Q : VK) (E : XK) (h : spOf (wd P w K) psDraw vs H Q E) : t_draw K { nx := fun _ H' => Q .non H', rt := Q } (L2.start N vs) H := by
  obtain ⟨G, as, φ, Q', Xc, e, ⟨many, rfl, hm, q⟩, k, _⟩ := h
  have hl := e.len.1
  rw [List.length_map] at hl
  match vs, hl with
  | [u, v], _ =>
  obtain ⟨u', a1, a2, a3⟩ := e.sl 0 _ rfl
  obtain ⟨v', b1, b2⟩ := e.sl 1 _ rfl
  simp at a1 b1
  subst a1 b1
  cases b2
  cases a3 with
  | hdl r =>
  obtain ⟨a, c, cells, seed, rfl, _, hac, hFa, hFc⟩ := r
  have hs : L2.start N [.ref a, .int many] = [some (.ref a), some (.int many), none, none, none] := by
    unfold L2.start
    rw [hN]
    rfl
  rw [hs]
  have ha := ne_none_of hFa
  have hc := ne_none_of hFc
  have hHa := e.sub 0 a _ hFa
  have hHc := e.sub 0 c _ hFc
  refine ⟨_, rfl, _, _, rfl, rfl, _, rfl, ?_⟩
  by_cases hmany : many < 1
  · rw [decide_eq_true hmany]; refine ifT ?_
    obtain ⟨t, r⟩ := draw_out (cells2 := cells) (st := stA) (fun F h1 h2 => .hdl ⟨a, c, _, _, rfl, rfl, hac, h1, h2⟩) e ha hc hac (H2 := H) hHa hHc (fun _ _ _ => rfl)
    exact k _ (.frz (.int 0)) emp H G _ _ t r (.int 0) (q 0 (by omega) (.inr rfl))
  rw [decide_eq_false hmany]; refine ifF ?_
  have SqA : ∀ {H2 : Hp} {s : Int}, H2 a = some (.lst [.ref c, .int s]) → SqL K H2 a [.ref c, .int s] := fun h => SqL.of h
  refine ⟨_, rfl, .inl ⟨a, _, 0, .ref c, rfl, rfl, SqA hHa, atI0, ?_⟩⟩
  refine ⟨fun m σ' H' => ∃ cs : List Int, cs.length = m ∧ cs.dropWhile (· == 0) = cells.dropWhile (· == 0) ∧ σ' = [some (.ref a), some (.int many), some (.ref c), none, none] ∧ H' a = some (.lst [.ref c, .int seed]) ∧ H' c = some (.lst (cs.map V.int)) ∧ ∀ b, b ≠ a → b ≠ c → H' b = H b,
    ⟨_, cells, rfl, rfl, rfl, hHa, hHc, fun _ _ _ => rfl⟩, ?_⟩
  rintro m σ' H' ⟨cs, rfl, hcs, rfl, hA, hC, hO⟩
  -- behind the loop
  have after : ∀ (b : Bool), (b = false → cs.dropWhile (· == 0) = cs) → b = false →
      (tSeq (tIfS (tTest (tOp rGt0 (tCB (rLenA K) (tCons (tVar 2) tNil)) (i0 0)))
    (tSeq (tAsg (tOp (rIx K) (tVar 2) (i0 0)) (gName 3))
    (tSeq (tAsg (tOp rDiv0 (tVar 3) (tVar 1)) (gSub (tVar 2) (i0 0) rSetL))
    (tRet (tOp rMod0 (tCB rInt1 (tCons (tVar 3) tNil)) (tVar 1))))) tNext)
  (tSeq (tAsg (tOp rMod0 (tCB rInt1 (tCons (tOp (rPlus K) (tOp rTimes (tOp (rIx K) (tVar 0) (i0 1)) (i0 48271)) (i0 12345)) tNil)) (i0 2147483647)) (gName 4))
  (tSeq (tAsg (tVar 4) (gSub (tVar 0) (i0 1) rSetL))
  (tRet (tOp rMod0 (tCB rInt1 (tCons (tOp rDiv0 (tVar 4) (i0 64)) tNil)) (tVar 1)))))) { nx := fun _ H' => Q .non H', rt := Q } [some (.ref a), some (.int many), some (.ref c), none, none] H' := by
    intro b hb hbf
    have hcs' := hb hbf
    rw [hcs'] at hcs
    refine ⟨_, rfl, _, (cs.map V.int).length, rfl, .inl ⟨_, SqL.of hC, rfl⟩, _, _, rfl, rfl, _, rfl, ?_⟩
    cases cs with
    | nil =>
      rw [decide_eq_false (by simp)]; refine ifF ?_
      refine ⟨_, rfl, .inl ⟨a, _, 1, .int seed, rfl, rfl, SqA hA, rfl, .inl ⟨_, _, rfl, rfl, .inr (by decide), .inl ⟨_, _, rfl, rfl, .inl ⟨_, rfl, _, _, rfl, rfl, (by decide : (0 : Int) < 2147483647), ?_⟩⟩⟩⟩⟩
      refine ⟨_, rfl, _, rfl, a, _, 1, 1, rfl, rfl, hA, rfl, ?_⟩
      refine ⟨_, rfl, _, _, rfl, rfl, (by decide : (0 : Int) < 64 ∧ (64 : Int) < 1073741824), .inl ⟨_, rfl, _, rfl, _, _, rfl, rfl, by omega, ?_⟩⟩
      obtain ⟨t, r⟩ := draw_out (cells2 := []) (st := stA) (fun F h1 h2 => .hdl ⟨a, c, _, _, rfl, rfl, hac, h1, h2⟩) e ha hc hac (H2 := upd H' a (.lst ([V.ref c, .int seed].set 1 (.int ((seed * 48271 + 12345) % 2147483647))))) upd_same
        (by rw [upd_ne (Ne.symm hac)]; exact hC) (fun b h1 h2 => by rw [upd_ne h1]; exact hO b h1 h2)
      exact k _ (.frz (.int _)) emp _ G _ _ t r (.int _) (q _ (Int.emod_nonneg _ (by omega)) (.inl (Int.emod_lt_of_pos _ (by omega))))
    | cons v cs =>
      rw [decide_eq_true (by simp)]; refine ifT ?_
      refine ⟨_, rfl, .inl ⟨c, _, 0, .int v, rfl, rfl, SqL.of hC, atI0, ?_⟩⟩
      refine ⟨_, rfl, _, rfl, _, _, rfl, rfl, ⟨by omega, hm⟩, _, rfl, c, _, 0, 0, rfl, rfl, hC, by simp [ixN], ?_⟩
      refine ⟨_, rfl, .inl ⟨_, rfl, _, rfl, _, _, rfl, rfl, by omega, ?_⟩⟩
      obtain ⟨t, r⟩ := draw_out (cells2 := v / many :: cs) (st := stA) (fun F h1 h2 => .hdl ⟨a, c, _, _, rfl, rfl, hac, h1, h2⟩) e ha hc hac (H2 := upd H' c (.lst (((v :: cs).map V.int).set 0 (.int (v / many)))))
        (by rw [upd_ne hac]; exact hA) upd_same (fun b h1 h2 => by rw [upd_ne h2]; exact hO b h1 h2)
      exact k _ (.frz (.int _)) emp _ G _ _ t r (.int _) (q _ (Int.emod_nonneg _ (by omega)) (.inl (Int.emod_lt_of_pos _ (by omega))))
  refine ⟨_, rfl, _, (cs.map V.int).length, rfl, .inl ⟨_, SqL.of hC, rfl⟩, _, _, rfl, rfl, _, rfl, ?_⟩
  cases cs with
  | nil =>
    rw [decide_eq_false (by simp)]; refine ifF ?_
    exact after false (fun _ => rfl) rfl
  | cons v cs =>
    rw [decide_eq_true (by simp)]; refine ifT ?_
    refine ⟨_, rfl, .inl ⟨c, _, 0, .int v, rfl, rfl, SqL.of hC, atI0, eqA0 ⟨_, rfl, ?_⟩⟩⟩
    by_cases hv : v = 0
    · rw [decide_eq_true hv]; refine ifT ?_
      subst hv
      refine ⟨fun σ2 H2 => ∃ m', m' < (0 :: cs).length ∧ ∃ ds : List Int, ds.length = m' ∧ ds.dropWhile (· == 0) = cells.dropWhile (· == 0) ∧ σ2 = [some (.ref a), some (.int many), some (.ref c), none, none] ∧ H2 a = some (.lst [.ref c, .int seed]) ∧ H2 c = some (.lst (ds.map V.int)) ∧ ∀ b, b ≠ a → b ≠ c → H2 b = H b, fun σ2 H2 h => h, ?_⟩
      refine ⟨_, rfl, .inl ⟨rfl, _, SqL.of hC⟩, c, _, 0, 0, .int 0, rfl, rfl, hC, by decide, by decide, by simp [seqIndex?], rfl, ?_⟩
      exact ⟨cs.length, by simp, cs, rfl, by rw [← hcs]; simp [List.dropWhile], rfl, by rw [upd_ne hac]; exact hA, upd_same, fun b h1 h2 => by rw [upd_ne h2]; exact hO b h1 h2⟩
    · rw [decide_eq_false hv]; refine ifF ?_
      exact after false (fun _ => by simp [hv]) rfl
end
end Pu

set_option Elab.async false
set_option linter.all false
set_option maxRecDepth 100000
namespace Pu
open PySem PySem.Spec L2
/-- isinstance(e, c), e the caught exception at a, its dict at dd -/
def rIsX (K : PySem.W.Frag) (C a dd : Addr) : List V → Hp → VK → Prop := fun xs H Q => ∃ (c : V) (cv : Value) (b : Bool) (fs : List (Str × V)), xs = [.ref a, c] ∧ H dd = some (.xd fs) ∧ (∀ u, RelV c u → u = cv) ∧ PySem.W.kitOne K (.ref C) cv = some b ∧ Q (.bl b) H
theorem cls_some {K : PySem.W.Frag} {C : Addr} (h : PySem.W.hasDictIn K C = true) : (PySem.W.clsIn K C).isSome = true := by
  cases q : PySem.W.clsIn K C with
  | some _ => rfl
  | none =>
    unfold PySem.W.hasDictIn at h
    rw [q] at h
    cases h
theorem call_isX {X : Cx} {a C dd : Addr} {oe : Obj} {pn : List (Addr × Obj)} (T : ExcC X.K C) (hz : Zc (.ref C) (some dd) oe) (hf : ∃ vs, oe.data = .fields vs) : CallR (X.suite a ((a, oe) :: pn)) (.builtin "isinstance") (rIsX X.K C a dd) := by
  intro pins s σ H xs us Q I r h
  obtain ⟨c, cv, b, fs, rfl, hd, hcv, e, q⟩ := h
  match us, r with
  | [_, t], .cons rx (.cons rt .nil) =>
    cases rx
    obtain rfl := hcv _ rt
    have ha := (I.pin (a, oe) (List.mem_append.mpr (.inl List.mem_cons_self))).1
    obtain ⟨vs, hv⟩ := hf
    obtain ⟨mA, hns, _⟩ := (show ObjOk X.prog X.w H s.heap dd (.xd fs) from I.hok dd _ hd)
    obtain ⟨od, ho, _⟩ := lookIn_ns hns
    have J : PySem.W.InstAt s.heap a oe C (some od) := ⟨ha, hz.1, by unfold PySem.W.notCls; rw [hv] <;> rfl, by rw [hz.2]; exact ho⟩
    exact PySem.W.kia_one (PySem.W.kitx_exc (cls_some T.hd) T.hg T.hk T.hs T.ha T.hn T.ht T.hm) I.kIn J e (fun z => nomatch z) fun tk => ⟨.bl b, H, I.kept (t' := tk) fun _ _ z => z, rfl, q⟩
def pIsX (a dd C0 : Addr) (b : Bool) : D → D → (D → Prop) → Prop
  | .exc a' dd' _ _, .cls c, Q => a' = a ∧ dd' = dd ∧ c = C0 ∧ Q (.bl b)
  | _, _, _ => False
theorem pc_isX {W : Wd} {a dd C C0 : Addr} {b : Bool} (hk : PySem.W.kitOne W.K (.ref C) (.ref C0) = some b) : PurC W (rIsX W.K C a dd) (p2 (pIsX a dd C0 b)) := pc_2 <| by
  intro G H x y dx dy Q Q' e f1 f2 k h
  cases f1 <;> first | (exact h.elim) | skip
  rename_i hd fd
  cases f2 <;> first | (exact h.elim) | skip
  obtain ⟨rfl, rfl, rfl, q⟩ := h
  exact ⟨.ref _, .ref _, b, _, rfl, e _ _ hd, fun u hu => hu, hk, k _ _ G H (Grow.refl e) (.bl _) q⟩
end Pu
namespace Pu
open PySem PySem.Spec L2
def tsX (C : Addr) (f : Addr → Addr → TS) : Addr → Value → Option Addr → TS := fun a cls d => match cls, d with
  | .ref c, some dd => if c = C then f a dd else tNever
  | _, _ => tNever
theorem tsX_self {C a dd : Addr} {f : Addr → Addr → TS} : tsX C f a (.ref C) (some dd) = f a dd := if_pos rfl
theorem pss_never {X : Cx} {b : List Stmt} : PSs X b tNever := ⟨fun _ _ _ _ _ _ h => h.elim⟩
theorem pss_tsX {X : Cx} {b : List Stmt} {C a : Addr} {cls : Value} {d : Option Addr} {oe : Obj} {f : Addr → Addr → TS} (hz : Zc cls d oe) (h : ∀ dd, Zc (.ref C) (some dd) oe → PSs X b (f a dd)) : PSs X b (tsX C f a cls d) := by
  unfold tsX
  split
  · rename_i c dd
    split
    · rename_i e
      subst e
      exact h dd hz
    · exact pss_never
  · exact pss_never
theorem purs_tryX {W : Wd} {E : XK} {Xc : XP} {ix ie : Nat} {ps : PSp} {pa : PCA} {C : Addr} {t : TA} {f : Addr → Addr → TS} {suite : Addr → Addr → PTS} (te : PySem.W.exmOne W.K (.ref C) (.ref C) = some true)
    (h : PurCA W E Xc t pa) (hs : ∀ a dd, PurS W E Xc (f a dd) (suite a dd)) :
    PurS W E Xc (fun D σ H => tAsg (tCallS (spOf W ps) (WE (wAs W.K (.ref C) ie (tsX C f) (fun _ _ _ _ => False) D)) t) (gName ix) D σ H) (sTry ix ps pa C ie suite) :=
  purs_try te h fun a dd => by rw [tsX_self]; exact hs a dd
end Pu
namespace Pu
open PySem PySem.Spec L2
/-- a promise: its arguments by a datum, what it answers -/
def psOf {α : Type} (A : α → List Slot) (R : α → (Slot → Env → Prop) → XP → Prop) : PSp := fun as Q Xc => ∃ x, as = A x ∧ R x Q Xc
theorem psOf_len {α : Type} {A : α → List Slot} {R : α → (Slot → Env → Prop) → XP → Prop} {n : Nat} (h : ∀ x, (A x).length = n) : ∀ as Q Xc, psOf A R as Q Xc → as.length = n := by
  rintro as Q Xc ⟨x, rfl, _⟩
  exact h x
/-- the __init__ of an error class -/
structure Ini (P : Program) (w : World) (K : PySem.W.Frag) (mg : Str → Option Value) (base : Heap) (C : Addr) (f : Str) (fI : Addr) : Prop where
  ex : ∃ (pn : List Str) (fd : FuncData), FnOk P w K mg base CX0 1 fI fd pn (spInitK K C f) ∧ Binds K fd pn []
end Pu
namespace Pu
open PySem PySem.Spec L2
theorem rv_int {i : Int} {t : Tok} : RelV (.int i) (.int i t) := ⟨t, rfl⟩
theorem rv_str {i : Str} {t : Tok} : RelV (.str i) (.str i t) := ⟨t, rfl⟩
theorem rv_ref {a : Addr} : RelV (.ref a) (.ref a) := rfl
theorem rv_ty {n : String} : RelV (.ty n) (.type n) := rfl
end Pu
namespace Pu
open PySem PySem.Spec L2
theorem rng_zero {lo : Int} : rng lo 0 = [] := rfl
theorem rng_succ {lo : Int} {n : Nat} : rng lo (n + 1) = .int lo :: rng (lo + 1) n := by
  unfold rng
  rw [List.range_succ_eq_map]
  simp only [List.map_cons, List.map_map, List.cons.injEq]
  refine ⟨by simp, ?_⟩
  apply List.map_congr_left
  intro k _
  simp only [Function.comp, D.int.injEq]
  omega
theorem atI_app {α : Type} {pre r : List α} {c : α} {i : Int} (h : i = (pre.length : Int)) : atI (pre ++ c :: r) i = some c := by
  subst h
  unfold atI ixN
  rw [if_pos (by omega), if_pos (by simp; omega)]
  simp
theorem atI_nat {α : Type} {xs : List α} {n : Nat} {c : α} (h : xs[n]? = some c) : atI xs (n : Int) = some c := by
  have hn := (List.getElem?_eq_some_iff.mp h).1
  unfold atI ixN
  rw [if_pos (by omega), if_pos (by omega)]
  simpa using h
theorem len_cps (t : Str) : t.length = t.cps.toList.length := by
  show t.cps.size = _
  simp
theorem big : (sizeLine : Nat) = 16777216 := sizeLine_eq
theorem chr_eq {c d : Nat} : (⟨#[c]⟩ : Str) = ⟨#[d]⟩ ↔ c = d := by simp
end Pu
namespace Pu
open PySem PySem.Spec L2
def frS : Slot → Bool
  | .par _ => false
  | .ptr _ => false
  | _ => true
theorem free_0 {x : Slot} {e : Env} : free (x :: e) 0 ↔ frS x = true := by
  unfold free frS
  cases x <;> simp
theorem free_succ {x : Slot} {e : Env} {n : Nat} : free (x :: e) (n + 1) ↔ free e n := by
  unfold free
  simp
theorem rng_get {lo : Int} {n i : Nat} {d : D} (h : (rng lo n)[i]? = some d) : i < n ∧ d = .int (lo + i) := by
  unfold rng at h
  rw [List.getElem?_map] at h
  cases q : (List.range n)[i]? with
  | none => rw [q] at h; cases h
  | some k =>
    rw [q] at h
    obtain ⟨hi, hk⟩ := List.getElem?_eq_some_iff.mp q
    simp only [List.length_range] at hi
    simp only [List.getElem_range] at hk
    subst hk
    exact ⟨hi, (Option.some.inj h).symm⟩
theorem rng_len {lo : Int} {n : Nat} : (rng lo n).length = n := by simp [rng]
end Pu
namespace Pu
theorem frS_frz {d : D} : frS (.frz d) = true := rfl
theorem frS_own {d : D} : frS (.own d) = true := rfl
theorem frS_tre {t : T} : frS (.tre t) = true := rfl
theorem frS_nil : frS .nil = true := rfl
theorem eqOk_ii {a b : Int} : eqOk (.int a) (.int b) = true := rfl
theorem eqOk_ss {a b : PySem.Str} : eqOk (.str a) (.str b) = true := rfl
theorem eqOk_bb {a b : Bool} : eqOk (.bl a) (.bl b) = true := rfl
theorem eqOk_ni {b : Int} : eqOk .non (.int b) = true := rfl
theorem eqOk_in {b : Int} : eqOk (.int b) .non = true := rfl
end Pu

set_option Elab.async false
set_option linter.all false
set_option maxRecDepth 100000
namespace Pu
open PySem PySem.Spec L2
/-! ### how the promises compute -/
section
variable {d : D} {e : Env} {n : Nat} {i j : Int} {b c : Bool} {x y z : Str} {xs ys : List D} {Q : D → Prop} {R : D → Env → Prop} {QB : Bool → Prop} {QI : Int → Prop} {ns : List Int} {a dd : Addr} {s : Slot}
theorem rd_lkL1 : lkL (some (.frz d)) = some d := rfl
theorem rd_lkL2 : lkL (some (.own d)) = if d.sol = true then some d else none := rfl
theorem rd_lkL3 : lkL (some (.par d)) = if d.sol = true then some d else none := rfl
theorem rd_lkE1 : lkE (some (.frz d)) = some d := rfl
theorem rd_lkE2 : lkE (some (.own d)) = if d.sol = true then some d else none := rfl
theorem rd_thE1 : thE e n (some (.frz d)) = e := rfl
theorem rd_thE2 : thE e n (some (.own d)) = e.set n (.frz d) := rfl
theorem rd_lkF1 : lkF (some (.frz d)) = some d := rfl
theorem rd_lkX1 : lkX (some (.frz d)) = some d := rfl
theorem rd_lkX2 : lkX (some (.own (.lst xs))) = some (.lst xs) := rfl
theorem rd_lkX3 : lkX (some (.par (.lst xs))) = some (.lst xs) := rfl
theorem rd_mvS1 : mvS (some (.frz d)) = some (.frz d) := rfl
theorem rd_mvS2 : mvS (some (.own d)) = some (.own d) := rfl
theorem rd_mvE1 : mvE e n (some (.frz d)) = e := rfl
theorem rd_mvE2 : mvE e n (some (.own d)) = e.set n .nil := rfl
theorem rd_lsO1 : lsO (.lst xs) = some xs := rfl
theorem rd_lsO2 : lsO (.scr ns) = some (ns.map D.int) := rfl
theorem rd_tpO1 : tpO (.tup xs) = some xs := rfl
theorem rd_sol1 : D.sol .non = true := rfl
theorem rd_sol2 : D.sol (.bl b) = true := rfl
theorem rd_sol3 : D.sol (.int i) = true := rfl
theorem rd_sol4 : D.sol (.str x) = true := rfl
theorem rd_sol5 : D.sol (.lst xs) = true := rfl
theorem rd_sol6 : D.sol (.tup xs) = true := rfl
theorem rd_sol7 : D.sol (.hdl n d) = false := rfl
theorem rd_flat1 : flat .non = true := rfl
theorem rd_flat2 : flat (.bl b) = true := rfl
theorem rd_flat3 : flat (.int i) = true := rfl
theorem rd_flat4 : flat (.str x) = true := rfl
theorem rd_flat5 : flat (.cls a) = true := rfl
theorem rd_asD1 : asD R (.frz d) e = R d e := rfl
theorem rd_asD2 : asD R (.own d) e = (d.sol = true ∧ R d e) := rfl
theorem rd_asQ1 : asQ Q (.frz d) = Q d := rfl
theorem rd_asQ2 : asQ Q (.own d) = (d.sol = true ∧ Q d) := rfl
theorem rd_asB : asB QB (.bl b) = QB b := rfl
theorem rd_asI : asI QI (.int i) = QI i := rfl
theorem rd_p1 {p : D → (D → Prop) → Prop} : p1 p [d] Q = p d Q := rfl
theorem rd_p2 {p : D → D → (D → Prop) → Prop} {d2 : D} : p2 p [d, d2] Q = p d d2 Q := rfl
theorem rd_pI0 {g : Int → Int → D} : pI0 g (.int i) (.int j) Q = Q (g i j) := rfl
theorem rd_pI2 {C : Int → Int → Prop} {g : Int → Int → D} : pI2 C g (.int i) (.int j) Q = (C i j ∧ Q (g i j)) := rfl
theorem rd_pU {g : Int → Int} : pU g (.int i) Q = Q (.int (g i)) := rfl
theorem rd_pAdd1 : pAdd (.int i) (.int j) Q = Q (.int (i + j)) := rfl
theorem rd_pAdd2 : pAdd (.str x) (.str y) Q = (x.length + y.length ≤ sizeLine ∧ Q (.str (x ++ y))) := rfl
theorem rd_pAdd3 : pAdd (.lst xs) (.lst ys) Q = (xs.length + ys.length ≤ sizeLine ∧ Q (.lst (xs ++ ys))) := rfl
theorem rd_pAdd4 : pAdd (.tup xs) (.tup ys) Q = (xs.length + ys.length ≤ sizeLine ∧ Q (.tup (xs ++ ys))) := rfl
theorem rd_pMul1 : pMul (.int i) (.int j) Q = (CMul i j ∧ Q (.int (i * j))) := rfl
theorem rd_pMul2 : pMul (.str x) (.int i) Q = ((i < 2 ^ 40 ∧ -(2 ^ 40) < i) ∧ x.length * i.toNat ≤ 1000000 ∧ Q (.str (Txt.mul x i))) := rfl
theorem rd_pMul3 : pMul (.lst xs) (.int i) Q = ((-(2 ^ 63) ≤ i ∧ i < 2 ^ 63) ∧ xs.length * i.toNat ≤ sizeLine ∧ Q (.lst (List.replicate i.toNat xs).flatten)) := rfl
theorem rd_pLen1 : pLen (.lst xs) Q = Q (.int xs.length) := rfl
theorem rd_pLen2 : pLen (.tup xs) Q = Q (.int xs.length) := rfl
theorem rd_pLen3 : pLen (.str x) Q = (x.length ≤ sizeLine ∧ Q (.int x.length)) := rfl
theorem rd_pInt1 : pInt1 (.int i) Q = Q (.int i) := rfl
theorem rd_pAbs : pAbs (.int i) Q = Q (.int (if i < 0 then -i else i)) := rfl
theorem rd_pList1 : pList (.lst xs) Q = Q (.lst xs) := rfl
theorem rd_pList2 : pList (.tup xs) Q = Q (.lst xs) := rfl
theorem rd_pList3 : pList (.scr ns) Q = Q (.lst (ns.map D.int)) := rfl
theorem rd_pCut1 {lo hi : Option Int} : pCut (.lst xs) lo hi Q = Q (.lst (cutD xs lo hi)) := rfl
theorem rd_pCut2 {lo hi : Option Int} : pCut (.tup xs) lo hi Q = Q (.tup (cutD xs lo hi)) := rfl
theorem rd_pCut3 {lo hi : Option Int} : pCut (.str x) lo hi Q = (x.length ≤ sizeLine ∧ Q (.str (cutS x lo hi))) := rfl
theorem rd_non1 : isNone .non = true := rfl
theorem rd_non2 : isNone (.int i) = false := rfl
theorem rd_non3 : isNone (.str x) = false := rfl
theorem rd_non4 : isNone (.lst xs) = false := rfl
theorem rd_non5 : isNone (.tup xs) = false := rfl
theorem rd_non6 : isNone (.bl b) = false := rfl
theorem rd_isStr : isStr (.str x) = true := rfl
theorem rd_pIx1 : pIx (.lst xs) (.int i) Q ↔ ∃ d, atI xs i = some d ∧ Q d := by
  simp only [pIx]
  cases h : atI xs i <;> simp
theorem rd_pIx2 : pIx (.tup xs) (.int i) Q ↔ ∃ d, atI xs i = some d ∧ Q d := by
  simp only [pIx]
  cases h : atI xs i <;> simp
theorem rd_pIx3 : pIx (.str x) (.int i) Q ↔ x.length ≤ sizeLine ∧ ∃ c, atI x.cps.toList i = some c ∧ Q (.str ⟨#[c]⟩) := by
  unfold pIx
  cases h : atI x.cps.toList i <;> simp [h]
theorem rd_pJoin1 : pJoin (.str x) (.lst xs) Q ↔ ∃ ys : List Str, xs = ys.map D.str ∧ joinOk x ys ∧ Q (.str (Txt.join x ys)) := by
  have e : pJoin (.str x) (.lst xs) Q = (match strsOf xs with
    | some ys => joinOk x ys ∧ Q (.str (Txt.join x ys))
    | none => False) := rfl
  rw [e]
  cases h : strsOf xs with
  | none => exact ⟨False.elim, fun ⟨ys, e, _⟩ => by subst e; rw [strsOf_map] at h; cases h⟩
  | some ys =>
    have := of_strsOf h
    subst this
    constructor
    · exact fun q => ⟨ys, rfl, q⟩
    · rintro ⟨zs, e, q⟩
      rw [e, strsOf_map] at h
      cases h
      exact q
theorem rd_upS1 {d2 : D} : upSlot (some (.own d)) (.par d2) = .own d2 := rfl
theorem rd_upS2 {d2 : D} : upSlot (some (.par d)) (.par d2) = .par d2 := rfl
theorem rd_out1 : outOf (.par d) = .par d := rfl
theorem rd_out2 : outOf (.frz d) = .nil := rfl
theorem rd_out3 : outOf (.own d) = .nil := rfl
theorem rd_out4 : outOf .nil = .nil := rfl
theorem rd_asL1 : asL (.own (.lst xs)) = some xs := rfl
theorem rd_asL2 : asL (.par (.lst xs)) = some xs := rfl
theorem rd_putL1 : putL ys (.own d) = .own (.lst ys) := rfl
theorem rd_putL2 : putL ys (.par d) = .par (.lst ys) := rfl
theorem rd_lkT1 {t : T} : lkL (some (.tre t)) = some t.er := rfl
theorem rd_lkT2 {t : T} : lkL (some (.ptr t)) = some t.er := rfl
theorem rd_lkT3 {t : T} : lkE (some (.tre t)) = some t.er := rfl
theorem rd_thT {t : T} : thE e n (some (.tre t)) = e.set n (.frz t.er) := rfl
theorem rd_mvT1 {t : T} : mvS (some (.tre t)) = some (.tre t) := rfl
theorem rd_mvT2 {t : T} : mvE e n (some (.tre t)) = e.set n .nil := rfl
theorem rd_asDT {t : T} : asD R (.tre t) e = R t.er e := rfl
theorem rd_asQT {t : T} : asQ Q (.tre t) = Q t.er := rfl
theorem rd_upT1 {t t2 : T} : upSlot (some (.tre t)) (.ptr t2) = .tre t2 := rfl
theorem rd_upT2 {t t2 : T} : upSlot (some (.ptr t)) (.ptr t2) = .ptr t2 := rfl
theorem rd_outT1 {t : T} : outOf (.ptr t) = .ptr t := rfl
theorem rd_outT2 {t : T} : outOf (.tre t) = .nil := rfl
theorem rd_ref1 : refS (some (.own d)) ↔ True := Iff.rfl
theorem rd_ref2 : refS (some (.par d)) ↔ True := Iff.rfl
theorem rd_ref3 {t : T} : refS (some (.tre t)) ↔ True := Iff.rfl
theorem rd_ref4 {t : T} : refS (some (.ptr t)) ↔ True := Iff.rfl
theorem rd_flat6 {ds : List D} : flat (.tup ds) = flats ds := by simp only [flat]
theorem rd_flats0 : flats [] = true := rfl
theorem rd_flats1 {ds : List D} : flats (d :: ds) = (flat d && flats ds) := by simp only [flats]
theorem rd_er1 : T.er (.leaf d) = d := by simp only [T.er]
theorem rd_er2 {ts : List T} : T.er (.lst ts) = .lst (T.ers ts) := by simp only [T.er]
theorem rd_er3 {l : Option Obj} {ks : List D} {ts : List T} : T.er (.dct l ks ts) = .dct ks (T.ers ts) := by simp only [T.er]
theorem rd_er4 {C : Addr} {fs : List Str} {ts : List T} : T.er (.obj C fs ts) = .obj C fs (T.ers ts) := by simp only [T.er]
theorem rd_ers0 : T.ers [] = [] := rfl
theorem rd_ers1 {t : T} {ts : List T} : T.ers (t :: ts) = t.er :: T.ers ts := by simp only [T.ers]
theorem rd_ersL {ds : List D} : T.ers (ds.map .leaf) = ds := by
  induction ds with
  | nil => rfl
  | cons d ds ih => rw [List.map_cons, T.ers, T.er, ih]
theorem rd_stA : D.sol stA = false := rfl
theorem isiOk_no {t n : String} (h : t = n ∨ True) : True := trivial
theorem rd_isi1 : pIsi (.int i) (.ty "int") Q ↔ Q (.bl true) := by simp [pIsi, tyD]
theorem rd_isi2 : pIsi (.str x) (.ty "str") Q ↔ Q (.bl true) := by simp [pIsi, tyD]
theorem rd_isi3 : pIsi (.lst xs) (.ty "list") Q ↔ Q (.bl true) := by simp [pIsi, tyD]
theorem rd_isi4 : pIsi (.tup xs) (.ty "tuple") Q ↔ Q (.bl true) := by simp [pIsi, tyD]
theorem rd_isX {C c : Addr} {f : Str} {a' dd' : Addr} : pIsX a dd C b (.exc a' dd' f d) (.cls c) Q = (a' = a ∧ dd' = dd ∧ c = C ∧ Q (.bl b)) := rfl
end
/-! ### slices of texts -/
theorem cutS_mid {z : Str} {i j : Nat} {lo hi : Int} (h1 : lo = i) (h2 : hi = j) (hij : i ≤ j) (hj : j ≤ z.length) : cutS z (some lo) (some hi) = SX.S ((z.cps.toList.drop i).take (j - i)) := by
  subst h1 h2
  unfold cutS
  rw [HT.sIx_nat z.length z.length j, HT.sIx_nat z.length 0 i, Nat.min_eq_left (Nat.le_trans hij hj), Nat.min_eq_left hj]
end Pu
namespace Pu
open PySem PySem.Spec L2
theorem str_inj : ∀ {a b : List Str}, a.map D.str = b.map D.str → a = b
  | [], [], _ => rfl
  | [], _ :: _, h => by simp at h
  | _ :: _, [], h => by simp at h
  | x :: xs, y :: ys, h => by
    simp only [List.map_cons, List.cons.injEq, D.str.injEq] at h
    rw [h.1, str_inj h.2]
theorem psOf_iff {α : Type} {A : α → List Slot} {R : α → (Slot → Env → Prop) → XP → Prop} (x : α) {Q : Slot → Env → Prop} {X : XP} (inj : ∀ y, A x = A y → x = y) : psOf A R (A x) Q X ↔ R x Q X := by
  constructor
  · rintro ⟨y, e, h⟩
    rw [inj y e]
    exact h
  · exact fun h => ⟨x, rfl, h⟩
theorem rd_draw {m : Int} {Q : Slot → Env → Prop} {X : XP} : psDraw [.par stA, .frz (.int m)] Q X ↔ m < 1073741824 ∧ ∀ v, 0 ≤ v → (v < m ∨ v = 0) → Q (.frz (.int v)) [.par stA, .nil] := by
  constructor
  · rintro ⟨y, e, h⟩
    cases e
    exact h
  · exact fun h => ⟨m, rfl, h⟩
end Pu

set_option Elab.async false
set_option linter.all false
set_option maxRecDepth 100000
namespace Pu
open PySem PySem.Spec PyProof.Rows
open L2
/-! ### defs that ask for repr: no guard is up around them -/
def NoG (A : Around) : Prop := A.guards = some []
structure FnOkG (P : Program) (w : World) (K : PySem.W.Frag) (mg : PySem.Str → Option Value) (base : Heap) (CX : CXT) (k : Nat) (f : Addr) (fd : FuncData) (ps : List PySem.Str) (sp : Sp) : Prop where
  size : ∀ vs H Q E, sp vs H Q E → vs.length = ps.length
  go : ∀ (A : Around) (fr : List PySem.Env) (s : Shared) (H : Hp) (as : Args) (us : List Value) (vs : List V) (Q : VK) (E : XK), NoG A → Room k A → Env0 P w K mg base A fr s H → BindsTo s fd as (ps.zip us) → Vals vs us → sp vs H Q E →
    codeAny (model P w) A (.call (.ref f) as) (CR CX fr P w H s Q E) s
section
variable {P : Program} {w : World} {K : PySem.W.Frag} {mg : PySem.Str → Option Value} {base : Heap} {CX : CXT} {k : Nat} {f : Addr} {fd : FuncData} {ps N : List PySem.Str} {sp : Sp} {x qual : PySem.Str} {params : Arguments} {body : List Stmt} {scope : Scope} {dvs : List V} {kws : List (PySem.Str × V)}
theorem okG (F : FnOk P w K mg base CX k f fd ps sp) : FnOkG P w K mg base CX k f fd ps sp := ⟨F.len, fun A fr s H as us vs Q E _ => F.run A fr s H as us vs Q E⟩
theorem okG_of (F : FunD K x qual params body scope dvs kws f fd) (S : FnScope N ps scope) (size : ∀ vs H Q E, sp vs H Q E → vs.length = ps.length)
    (run : ∀ (cdv : Value) (A : Around) (fr : List PySem.Env) (s : Shared) (H : Hp) (vs : List V) (Q : VK) (E : XK), NoG A → Room k (A.deeper (envOfC qual scope s.heap.objs.size f cdv)) → sp vs H Q E →
      ∃ t, PSs (cxOf CX P w K mg base N qual scope f cdv A fr s H E) body t ∧ t { nx := fun _ H' => Q .non H', rt := Q } (L2.start N vs) H) : FnOkG P w K mg base CX (k + 1) f fd ps sp where
  size := size
  go := by
    intro A fr s H as us vs Q E ng room e0 bind rv pre
    obtain ⟨oc, od, dV, kV, doc, pm, an, cdv, ct, osl, rfl, lk, code, _, _⟩ := F.ex
    have old : ∀ b o, base.get? b = some o → s.heap.get? b = some o := fun b o q => (e0.bs b o q).1
    have kin : K.In s.heap := e0.mod.kin.keeps old
    have free := e0.mod.nolimit.keeps old
    have kinds : ∀ z ∈ ps.zip us, scope.names.lookup z.1 = some .local ∨ (scope.names.lookup z.1 = some .cell ∧ ((cellsFrom (s.heap.objs.size + 1) scope.names []).lookup z.1).isSome = true) := by
      intro z hz
      exact (S.par z.1 (List.of_mem_zip hz).1).imp id fun c => ⟨c, PySem.W.cellsFrom_some _ _ _ (.inl c)⟩
    refine codeAny_call_function room.depth (kin _ _ lk) rfl S.co S.gen rfl (PySem.W.codeRec_of kin code) (bind _ _ _ _ (wpAny_newFunctionEnv_cells S.kind kinds fun en hen s1 new => ?_))
    subst hen
    refine ⟨free.keeps new.toInCall.keep, codeAny_func ?_⟩
    obtain ⟨t, walk, want⟩ := run cdv A fr s H vs Q E ng (room.deeper _) pre
    have inv : Inv (cxOf CX P w K mg base N qual scope f cdv A fr s H E) [] (L2.start N vs) H s1 := inv_start S room.hd e0 (size _ _ _ _ pre) rv new
    refine wpAny_mono (walk.run [] s1 (L2.start N vs) H _ inv want) (fun fl s2 q => ?_) fun _ _ q => q
    cases fl with
    | next =>
      obtain ⟨σ', H', J, q⟩ := q
      exact ⟨V.non, H', J.os, J.bare, J.base, J.hok, rfl, q⟩
    | ret u =>
      obtain ⟨v, σ', H', J, r, q⟩ := q
      exact ⟨v, H', J.os, J.bare, J.base, J.hok, r, q⟩
    | cont =>
      obtain ⟨_, _, _, q⟩ := q
      cases q
    | brk =>
      obtain ⟨_, _, _, q⟩ := q
      cases q
end
section
variable {X : Cx} {CX : CXT} {k : Nat} {f : Addr} {fd : FuncData} {ps : List PySem.Str} {sp : Sp} {x : PySem.Str} {p pos : Pos} {e : Expr} {es : List Expr} {t : TA} {E : XK}
/-- a call of one of them -/
theorem pe_callG (F : FnOkG X.prog X.w X.K X.mg X.base CX k f fd ps sp) (ng : NoG X.A) (room : Room k X.A) (gl : Gl X x) (at_ : X.mg x = some (.ref f)) (kp : PySem.W.keepIn X.K (.ref f) = true) (bd : Binds X.K fd ps []) (px : Passes CX X E)
    (ha : PA X (e :: es) t) (nd : (x == ("__debug__" : PySem.Str)) = false := by decide) (hs : starEach (e :: es) X.env = (false, eval e X.env) :: starEach es X.env := by rfl) (hp : (backTo pos (starEach es X.env)).any (·.1) = false := by rfl) :
    PE X (.Call (.Name x p) (e :: es) [] pos) (tCall sp [] E t) := by
  refine ⟨fun pins s σ H Q I h => wpAny_Call_Name_kw (ld_glob I gl at_ ?_ nd)⟩
  refine PySem.W.callWith_K (h₀ := X.base) I.ok.mod.kin kp (thn (ha.run pos pins s σ H _ I h) fun us s1 z => ?_) hs hp
  obtain ⟨vs, H1, J, rv, pre⟩ := z
  rw [List.append_nil] at pre
  have len : (us ++ []).length = ps.length := by rw [List.append_nil, ← rv.length]; exact F.size _ _ _ _ pre
  have bind := bd s1 us J.kIn len
  rw [List.append_nil] at bind
  refine ⟨J.kIn, wpAny_call (codeAny_mono (F.go X.A X.stack s1 H1 ⟨us, []⟩ us vs Q E ng room J.env0 bind rv pre) fun r s2 q => ?_)⟩
  match r, q with
  | .error er, q => exact px pins σ H1 s1 er s2 J q
  | .ok (.ret u), q => exact J.after q
end
end Pu

set_option Elab.async false
set_option linter.all false
set_option maxRecDepth 100000
namespace Pu
open PySem PySem.Spec PyProof.Rows
open L2
theorem callerG : NoG callerA := rfl
section
variable {P : Program} {w : World} {K : PySem.W.Frag} {mg mb : PySem.Str → Option Value} {k : Nat} {fa a : Addr} {fd : FuncData} {x : PySem.Str} {sp : Sp} {s1 : Shared} {its : List Value} {ns : List Int}
def scrO (its : List Value) : Obj := { cls := .type "list", data := .seq its.toArray }
/-- what is told of the heap ahead of the law: the script, if it is not the module's own -/
def scrH (K : PySem.W.Frag) (a : Addr) (its : List Value) (ns : List Int) : Hp := fun b => if b = a ∧ (K.lookup a).isNone = true then some (.frz (scrO its) (.lst (ns.map V.int))) else none
theorem scrH_only : Only (scrH K a its ns) := fun b => by
  unfold scrH
  split
  · exact .inr ⟨_, _, rfl⟩
  · exact .inl rfl
theorem scrH_some {b : Addr} {o : HO} (h : scrH K a its ns b = some o) : b = a ∧ K.lookup a = none ∧ o = .frz (scrO its) (.lst (ns.map V.int)) := by
  unfold scrH at h
  split at h
  · rename_i c
    exact ⟨c.1, Option.isNone_iff_eq_none.mp c.2, (Option.some.inj h).symm⟩
  · cases h
theorem ints_vals (hi : IntsAre its ns) : Vals (ns.map V.int) its := vals_ints hi
theorem scrH_sq (kin : K.In s1.heap) (ha : s1.heap.get? a = some (scrO its)) (hi : IntsAre its ns) (hl : ns.length ≤ sizeLine) : SqL K (scrH K a its ns) a (ns.map V.int) := by
  cases q : K.lookup a with
  | none =>
    refine .inl (.inr ⟨scrO its, ?_⟩)
    unfold scrH
    rw [if_pos ⟨rfl, by rw [q]; rfl⟩]
  | some o =>
    have e := (kin a o q).symm.trans ha
    cases e
    exact .inr ⟨_, its.toArray, _, q, rfl, rfl, rfl, by rw [List.size_toArray, hi.length]; exact hl, by simpa using ints_vals hi⟩
theorem scrH_ok (ha : s1.heap.get? a = some (scrO its)) (hi : IntsAre its ns) (hl : ns.length ≤ sizeLine) : HOk P w (scrH K a its ns) s1.heap := fun b u z => by
  obtain ⟨rfl, _, rfl⟩ := scrH_some z
  exact ⟨ha, by rw [List.length_map]; exact hl, its, _, ints_vals hi, ha⟩
/-- the law's call, no guard being up -/
theorem lawG (kin : K.In s1.heap) (hns : s1.heap.Ns mainGlobals mg) (hb : s1.heap.Ns builtinsNs mb) (hbb : ∀ y : PySem.Str, y ≠ "__name__" → mb y = bootBuiltins y) (hlim : s1.heap.NoLimit) (hg : s1.gens = #[])
    (ha : s1.heap.get? a = some (scrO its)) (hi : IntsAre its ns) (hl : ns.length ≤ sizeLine) (room : Room k callerA)
    (F : ∀ base : Heap, K.In base → base.Ns mainGlobals mg → FnOkG P w K mg base CX0 k fa fd [x] sp) (bind : ∀ (s : Shared) (u : Value), BindsTo s fd ⟨[u], []⟩ [(x, u)])
    (pre : ∀ H : Hp, SqL K H a (ns.map V.int) → sp [.ref a] H (fun v _ => v = .bl true) fun _ _ _ => False) :
    codeAny (model P w) callerA (.call (.ref fa) ⟨[.ref a], []⟩) (fun r s2 => r = .ok (.ret (.bool true)) ∧ OldK s1.heap s2.heap ∧ s2.os = s1.os ∧ AllBare s2.gens) s1 := by
  let H := scrH K a its ns
  have ok : HOk P w H s1.heap := scrH_ok ha hi hl
  have out : ∀ {b : Addr} {o : Obj}, s1.heap.get? b = some o → (b ≠ a ∨ (K.lookup a).isSome = true) → (hidT s1.heap H).get? b = some o := fun {b o} e d => hidT_get e (by
    cases q : H b with
    | none => rfl
    | some u =>
      obtain ⟨h1, h2, _⟩ := scrH_some q
      rcases d with d | d
      · exact absurd h1 d
      · rw [h2] at d; cases d)
  have nd : ∀ {b : Addr} {o : Obj} {es : Array DictEntry} {ep : Nat}, s1.heap.get? b = some o → o.data = .dict es ep → b ≠ a := fun {b o es ep} e d z => by
    subst z
    have q := ha.symm.trans e
    cases q
    exact Data.noConfusion d
  have ns' : ∀ {b : Addr} {m : PySem.Str → Option Value}, s1.heap.Ns b m → (hidT s1.heap H).Ns b m := fun {b m} z => by
    obtain ⟨o, es, ep, e, d, r⟩ := z
    exact ⟨o, es, ep, out e (.inl (nd e d)), d, r⟩
  have kb : K.In (hidT s1.heap H) := fun b o e => out (kin b o e) (by
    by_cases z : b = a
    · subst z; exact .inr (by rw [e]; rfl)
    · exact .inl z)
  obtain ⟨mc, l1, l2⟩ := hlim
  have md : Mod K mg (hidT s1.heap H) := ⟨kb, ns' hns, ⟨mb, ns' hb, hbb⟩, ⟨mc, ns' l1, l2⟩⟩
  have e0 : Env0 P w K mg (hidT s1.heap H) callerA [] s1 H :=
    { frames := rfl, mod := md, bs := fun b o e => of_hidT e, bsz := Nat.le_of_eq (hidT_size _ _), funs := trivial, frf := fun b z => (nomatch z), hok := ok, bare := .of_eq hg }
  refine codeAny_mono ((F _ kb (ns' hns)).go callerA [] s1 H ⟨[.ref a], []⟩ [.ref a] [.ref a] _ _ callerG room e0 (bind s1 (.ref a)) (.cons rfl .nil) (pre H (scrH_sq kin ha hi hl))) fun r s2 h => ?_
  match r, h with
  | .ok (.ret u), h =>
    obtain ⟨v, H2, os, bare, un, ok2, rv, rfl⟩ := h
    obtain rfl : u = Value.bool true := rv
    refine ⟨rfl, OldK.of_keep fun b o e => ?_, os, bare⟩
    cases q : H b with
    | none => exact un.keep b o e q (fun z => by cases z) (fun z => by cases z)
    | some u =>
      obtain ⟨rfl, _, rfl⟩ := scrH_some q
      have c := (ok2 b _ (un.frzs b _ _ q)).1
      have := ha.symm.trans e
      cases this
      exact c
end
/-- the head's goal, from the law's promise at no guard -/
theorem walk_ofG {l : PySem.W.OpenLaw} {n k : Nat} {q : Program} {loose : List PySem.Str} {XP : (PySem.Str → Option Value) → Heap → Prop} {YP : World → Heap → Prop} {d : DefRec} {x : PySem.Str}
    (hn : l.most = some n) (small : n ≤ sizeLine) (plain : d.params.defaults = []) (room : Room k callerA)
    (F : ∀ (w : World) (mg : PySem.Str → Option Value) (fa : Addr) (h : Heap), YP w h → h.Ns mainGlobals mg → mg d.name = some (.ref fa) →
      ∃ (K : PySem.W.Frag) (fd : FuncData) (sp : Sp), K.In h ∧ (∀ (s : Shared) (u : Value), BindsTo s fd ⟨[u], []⟩ [(x, u)]) ∧
        (∀ (H : Hp) (a : Addr) (ns : List Int), ns.length ≤ n → SqL K H a (ns.map V.int) → sp [.ref a] H (fun v _ => v = .bl true) fun _ _ _ => False) ∧
        ∀ base : Heap, K.In base → base.Ns mainGlobals mg → FnOkG l.prog w K mg base CX0 k fa fd [x] sp) :
    PySem.W.WalkO q loose XP YP l.row.toRowW d [] (fun f vs => PySem.call f vs) :=
  Att.attach_call hn plain fun w s0 s1 mg mb fa o pm cd doc a vs ns G Y ho hd hcd hmg hobj hints hlen hg => by
    obtain ⟨K, fd, sp, kin, bind, pre, ok⟩ := F w mg fa _ Y G.T.g hmg
    exact lawG kin G.T.g G.T.b G.T.builtins G.T.nolimit hg hobj hints (Nat.le_trans hlen small) room ok bind fun H hS => pre H a ns hlen hS
end Pu

set_option Elab.async false
set_option linter.all false
set_option maxRecDepth 100000
namespace Pu
open PySem PySem.Spec PyProof.Rows
open L2
/-! ### data as the reads tell it -/
section
variable {X : Cx}
def rRepr (K : PySem.W.Frag) : List V → Hp → VK → Prop := fun xs H Q => ∃ x d, xs = [x] ∧ Dp K H x d ∧ d.showable = true ∧ d.hasDict = false ∧ d.depth ≤ 60 ∧ d.shown.length ≤ sizeLine ∧ Q (.str d.shown) H
theorem call_reprD (ng : NoG X.A) (hu : X.A.units + 64 < cLine) : CallR X (.builtin "repr") (rRepr X.K) := by
  intro pins s σ H xs us Q I r h
  obtain ⟨x, d, rfl, hd, hs, hn, hp, hz, q⟩ := h
  match us, r with
  | [u], .cons rx .nil =>
    obtain ⟨as, rd⟩ := Dp.reads I d x u hd rx
    have big : isDisplay d = true → wpAny (model X.prog X.w) X.A (call (.builtin "repr") [u]) (EP X pins σ Q) X.xe s := fun hi => by
      obtain ⟨a, rfl⟩ := isRef_of_reads rd hi
      exact repr_of_reads' rd hs (PyData.noDict_hsm hn) ng (by omega) (fun _ _ e => e) (fun h2 t k old => ⟨.str d.shown, H, I.kept fun b o e => old b o e, ⟨t, rfl⟩, q⟩) hz
    cases d with
    | none =>
      cases rd
      exact PySem.P.repr_of_none ⟨.str _, H, I.tok _, ⟨_, rfl⟩, by simpa [PyData.shown] using q⟩
    | bool b =>
      cases rd
      exact PySem.P.repr_of_bool ⟨.str _, H, I.tok _, ⟨_, rfl⟩, by simpa [PyData.shown] using q⟩
    | int i =>
      cases rd
      exact PySem.P.repr_of_int (by simpa [PyData.showable] using hs) ⟨.str _, H, I.tok _, ⟨_, rfl⟩, by simpa [PyData.shown] using q⟩
    | str y =>
      cases rd
      exact PySem.P.repr_of_str ⟨.str _, H, I.tok _, ⟨_, rfl⟩, by simpa [PyData.shown] using q⟩ (by simpa [PyData.shown] using hz)
    | list ds => exact big rfl
    | tuple ds => exact big rfl
    | dict kvs => simp [PyData.hasDict] at hn
/-- < and the like -/
def rCmp (K : PySem.W.Frag) (f : PyData → PyData → Bool) : R2 := fun x y H Q => ∃ d e, Dp K H x d ∧ Dp K H y e ∧ PySem.W.alike d e = true ∧ d ≠ .none ∧ d.depth ≤ 60 ∧ Q (.bl (f d e)) H
theorem op_ltD (hu : X.A.units + 64 < cLine) : OpR X (compareOp .Lt) (rCmp X.K fun d e => PySem.W.dataLt d e) := by
  intro pins s σ H x y v u Q I rx ry ⟨d, e, hd, he, al, nn, dp, q⟩
  obtain ⟨as, r1⟩ := Dp.reads I d x v hd rx
  obtain ⟨bs, r2⟩ := Dp.reads I e y u he ry
  exact PySem.W.lt_data r1 r2 al nn (by omega) ⟨.bl _, H, I, rfl, q⟩
theorem op_gtD (hu : X.A.units + 64 < cLine) : OpR X (compareOp .Gt) (rCmp X.K fun d e => PySem.W.dataLt e d) := by
  intro pins s σ H x y v u Q I rx ry ⟨d, e, hd, he, al, nn, dp, q⟩
  obtain ⟨as, r1⟩ := Dp.reads I d x v hd rx
  obtain ⟨bs, r2⟩ := Dp.reads I e y u he ry
  exact PySem.W.gt_data r1 r2 al nn (by omega) ⟨.bl _, H, I, rfl, q⟩
theorem op_leD (hu : X.A.units + 64 < cLine) : OpR X (compareOp .LtE) (rCmp X.K fun d e => !PySem.W.dataLt e d) := by
  intro pins s σ H x y v u Q I rx ry ⟨d, e, hd, he, al, nn, dp, q⟩
  obtain ⟨as, r1⟩ := Dp.reads I d x v hd rx
  obtain ⟨bs, r2⟩ := Dp.reads I e y u he ry
  exact PySem.W.le_data r1 r2 al nn (by omega) ⟨.bl _, H, I, rfl, q⟩
theorem op_geD (hu : X.A.units + 64 < cLine) : OpR X (compareOp .GtE) (rCmp X.K fun d e => !PySem.W.dataLt d e) := by
  intro pins s σ H x y v u Q I rx ry ⟨d, e, hd, he, al, nn, dp, q⟩
  obtain ⟨as, r1⟩ := Dp.reads I d x v hd rx
  obtain ⟨bs, r2⟩ := Dp.reads I e y u he ry
  exact PySem.W.ge_data r1 r2 al nn (by omega) ⟨.bl _, H, I, rfl, q⟩
/-- x in a tuple -/
def rInT (K : PySem.W.Frag) (neg : Bool) : R2 := fun x y H Q => ∃ d ds, Dp K H x d ∧ Dp K H y (.tuple ds) ∧ SeqAt.shaped d = true ∧ SeqAt.shaped (.tuple ds) = true ∧ Q (.bl (neg ^^ ds.any fun z => PyData.eqv z d)) H
theorem room_tup {A : Around} {d : PyData} {ds : List PyData} (sd : SeqAt.shaped d = true) (hu : A.units + 65 < cLine) : A.units + 1 + min (PyData.depthAll ds) d.depth < cLine := by
  have h : d.depth ≤ 64 := by
    unfold SeqAt.shaped at sd
    have := (Bool.and_eq_true_iff.mp sd)
    rcases this with ⟨a, b⟩
    first
      | exact Nat.le_of_lt (of_decide_eq_true b)
      | exact of_decide_eq_true b
  omega
end
end Pu

set_option Elab.async false
set_option linter.all false
set_option maxRecDepth 100000
namespace Pu
open PySem PySem.Spec PyProof.Rows
open L2
theorem room65 {k : Nat} {A : Around} (hr : Room k A) : A.units + 65 < cLine := by have := hr.un; omega
theorem room64 {k : Nat} {A : Around} (hr : Room k A) : A.units + 64 < cLine := by have := hr.un; omega
section
variable {X : Cx}
theorem op_inT (hu : X.A.units + 65 < cLine) : OpR X (compareOp .In) (rInT X.K false) := by
  intro pins s σ H x y v u Q I rx ry ⟨d, ds, hd, he, sd, se, q⟩
  obtain ⟨as, r1⟩ := Dp.reads I d x v hd rx
  obtain ⟨bs, r2⟩ := Dp.reads I (.tuple ds) y u he ry
  exact SeqAt.in_tuple_reads r2 r1 (SeqAt.canLay_of_shaped se) (SeqAt.canLay_of_shaped sd) (room_tup sd hu) ⟨.bl _, H, I, rfl, by rw [Bool.false_xor] at q; exact q⟩
theorem op_notInT (hu : X.A.units + 65 < cLine) : OpR X (compareOp .NotIn) (rInT X.K true) := by
  intro pins s σ H x y v u Q I rx ry ⟨d, ds, hd, he, sd, se, q⟩
  obtain ⟨as, r1⟩ := Dp.reads I d x v hd rx
  obtain ⟨bs, r2⟩ := Dp.reads I (.tuple ds) y u he ry
  exact SeqAt.notIn_tuple_reads r2 r1 (SeqAt.canLay_of_shaped se) (SeqAt.canLay_of_shaped sd) (room_tup sd hu) ⟨.bl _, H, I, rfl, by rw [Bool.true_xor] at q; exact q⟩
/-- x in c: a sign in a text, data in a list or a tuple -/
def rInU (K : PySem.W.Frag) : R2 := fun x y H Q => (∃ (c : Nat) (z : PySem.Str), x = .str ⟨#[c]⟩ ∧ y = .str z ∧ Q (.bl (decide (c ∈ z.cps.toList))) H) ∨ rInD K x y H Q ∨ rInT K false x y H Q
def rNotInU (K : PySem.W.Frag) : R2 := fun x y H Q => (∃ (c : Nat) (z : PySem.Str), x = .str ⟨#[c]⟩ ∧ y = .str z ∧ Q (.bl (!decide (c ∈ z.cps.toList))) H) ∨ rNotInD K x y H Q ∨ rInT K true x y H Q
theorem op_inU (hu : X.A.units + 65 < cLine) : OpR X (compareOp .In) (rInU X.K) := op_in_sign.or ((op_inD hu).or (op_inT hu))
theorem op_notInU (hu : X.A.units + 65 < cLine) : OpR X (compareOp .NotIn) (rNotInU X.K) := op_notIn_sign.or ((op_notInD hu).or (op_notInT hu))
def rLtU (K : PySem.W.Frag) : R2 := fun x y H Q => rI0 (fun i j => .bl (decide (i < j))) x y H Q ∨ rCmp K (fun d e => PySem.W.dataLt d e) x y H Q
def rLeU (K : PySem.W.Frag) : R2 := fun x y H Q => rI0 (fun i j => .bl (decide (i ≤ j))) x y H Q ∨ rCmp K (fun d e => !PySem.W.dataLt e d) x y H Q
def rGtU (K : PySem.W.Frag) : R2 := fun x y H Q => rI0 (fun i j => .bl (decide (j < i))) x y H Q ∨ rCmp K (fun d e => PySem.W.dataLt e d) x y H Q
def rGeU (K : PySem.W.Frag) : R2 := fun x y H Q => rI0 (fun i j => .bl (decide (j ≤ i))) x y H Q ∨ rCmp K (fun d e => !PySem.W.dataLt d e) x y H Q
theorem op_ltU (hu : X.A.units + 64 < cLine) : OpR X (compareOp .Lt) (rLtU X.K) := op_lt.or (op_ltD hu)
theorem op_leU (hu : X.A.units + 64 < cLine) : OpR X (compareOp .LtE) (rLeU X.K) := op_le.or (op_leD hu)
theorem op_gtU (hu : X.A.units + 64 < cLine) : OpR X (compareOp .Gt) (rGtU X.K) := op_gt.or (op_gtD hu)
theorem op_geU (hu : X.A.units + 64 < cLine) : OpR X (compareOp .GtE) (rGeU X.K) := op_ge.or (op_geD hu)
end
/-! ### the same by data -/
section
variable {W : Wd} {E : XK} {Xc : XP} {ta tb tc te : TE} {pa pb pc pe : PTE} {tt : TT} {pt : PTT} {Z : Addr → Prop} {σ0 : L2.St} {H G H' G' : Hp} {σ : L2.St} {env : Env} {φ : Nat → Hp}
def D.ltD (x y : D) : Bool := PySem.W.dataLt x.py y.py
def cmpOk (x y : D) : Bool := D.pl 60 x && D.pl 60 y && PySem.W.alike x.py y.py && !isNone x
theorem cmp_of {G H : Hp} (e : Same G H) {x y : V} {dx dy : D} (f1 : FR W G x dx) (f2 : FR W G y dy) (h : cmpOk dx dy = true) {f : PyData → PyData → Bool} {Q : VK} (q : Q (.bl (f dx.py dy.py)) H) : rCmp W.K f x y H Q := by
  unfold cmpOk at h
  simp only [Bool.and_eq_true, Bool.not_eq_true'] at h
  obtain ⟨⟨⟨h1, h2⟩, h3⟩, h4⟩ := h
  obtain ⟨_, a2⟩ := D.lay 60 dx h1
  refine ⟨dx.py, dy.py, dp_same e (D.dp f1 h1), dp_same e (D.dp f2 h2), h3, fun z => ?_, a2, q⟩
  cases dx <;> simp [D.py, isNone, D.pl] at z h4 h1
def pCmpD (g : Int → Int → Bool) (f : D → D → Bool) : D → D → (D → Prop) → Prop
  | .int i, .int j, Q => Q (.bl (g i j))
  | x, y, Q => cmpOk x y = true ∧ Q (.bl (f x y))
theorem pr_cmp {g : Int → Int → Bool} {f : PyData → PyData → Bool} : PurR2 W (fun x y H Q => rI0 (fun i j => .bl (g i j)) x y H Q ∨ rCmp W.K f x y H Q) (pCmpD g fun x y => f x.py y.py) := by
  intro G H x y dx dy Q Q' e f1 f2 k h
  unfold pCmpD at h
  split at h
  · cases f1
    cases f2
    exact .inl ⟨_, _, rfl, rfl, k _ _ G H (Grow.refl e) (.bl _) h⟩
  · exact .inr (cmp_of e f1 f2 h.1 (k _ _ G H (Grow.refl e) (.bl _) h.2))
def pLt := pCmpD (fun i j => decide (i < j)) D.ltD
def pLe := pCmpD (fun i j => decide (i ≤ j)) fun x y => !D.ltD y x
def pGt := pCmpD (fun i j => decide (j < i)) fun x y => D.ltD y x
def pGe := pCmpD (fun i j => decide (j ≤ i)) fun x y => !D.ltD x y
theorem pr_lt : PurR2 W (rLtU W.K) pLt := pr_cmp (f := fun d e => PySem.W.dataLt d e)
theorem pr_le : PurR2 W (rLeU W.K) pLe := pr_cmp (f := fun d e => !PySem.W.dataLt e d)
theorem pr_gt : PurR2 W (rGtU W.K) pGt := pr_cmp (f := fun d e => PySem.W.dataLt e d)
theorem pr_ge : PurR2 W (rGeU W.K) pGe := pr_cmp (f := fun d e => !PySem.W.dataLt d e)
/-- in -/
def inOk (x : D) (ds : List D) : Bool := D.pl 59 x && D.pls 59 ds && ds.all fun z => D.nm z x
theorem any_eqv : ∀ {ds : List D} {x : D}, D.pl 59 x = true → D.pls 59 ds = true → (ds.all fun z => D.nm z x) = true → ((D.pys ds).any fun z => PyData.eqv z x.py) = decide (x ∈ ds)
  | [], x, _, _, _ => by
    rw [decide_eq_false (by simp)]
    simp only [D.pys, List.any_nil]
  | d :: ds, x, h1, h2, h3 => by
    have h2' : D.pl 59 d = true ∧ D.pls 59 ds = true := by simpa only [D.pls, Bool.and_eq_true] using h2
    have h3' : D.nm d x = true ∧ (ds.all fun z => D.nm z x) = true := by simpa only [List.all_cons, Bool.and_eq_true] using h3
    have ih := any_eqv h1 h2'.2 h3'.2
    have hd := D.eqv_dec 59 59 d x h2'.1 h1 h3'.1
    simp only [D.pys, List.any_cons]
    rw [ih, hd, Bool.eq_iff_iff, Bool.or_eq_true, decide_eq_true_eq, decide_eq_true_eq, decide_eq_true_eq, List.mem_cons]
    exact ⟨fun z => z.imp (fun y => y.symm) id, fun z => z.imp (fun y => y.symm) id⟩
theorem in_of {G H : Hp} (e : Same G H) {x : V} {vs : List V} {dx : D} {ds : List D} (f1 : FR W G x dx) (f2 : FRs W G vs ds) (h : inOk dx ds = true) :
    Dp W.K H x dx.py ∧ DpAll W.K H vs (D.pys ds) ∧ SeqAt.shaped dx.py = true ∧ (PyData.canLayAll0 (D.pys ds) = true ∧ PyData.depthAll (D.pys ds) ≤ 59) ∧ ((D.pys ds).any fun z => PyData.eqv z dx.py) = decide (dx ∈ ds) := by
  unfold inOk at h
  simp only [Bool.and_eq_true] at h
  obtain ⟨⟨h1, h2⟩, h3⟩ := h
  obtain ⟨a1, a2⟩ := D.lay 59 dx h1
  have hs : SeqAt.shaped dx.py = true := by
    unfold SeqAt.shaped
    rw [a1, decide_eq_true (by omega)]; rfl
  have key : DpAll W.K H vs (D.pys ds) := D.dps (f2.mono e) h2
  exact ⟨dp_same e (D.dp f1 h1), key, hs, D.lays 59 ds h2, any_eqv h1 h2 h3⟩
def pInG (neg : Bool) : D → D → (D → Prop) → Prop
  | .str x, .str z, Q => ∃ c, x = ⟨#[c]⟩ ∧ Q (.bl (neg ^^ decide (c ∈ z.cps.toList)))
  | x, .lst ds, Q => inOk x ds = true ∧ Q (.bl (neg ^^ decide (x ∈ ds)))
  | x, .tup ds, Q => inOk x ds = true ∧ Q (.bl (neg ^^ decide (x ∈ ds)))
  | _, _, _ => False
def pIn := pInG false
def pNotIn := pInG true
theorem sh_l {ds : List PyData} (h : PyData.canLayAll0 ds = true ∧ PyData.depthAll ds ≤ 59) : SeqAt.shaped (.list ds) = true ∧ SeqAt.shaped (.tuple ds) = true := by
  have h1 : PyData.canLay0 (.list ds) = true := by simp only [PyData.canLay0]; exact h.1
  have h2 : PyData.canLay0 (.tuple ds) = true := by simp only [PyData.canLay0]; exact h.1
  have h3 : PyData.depth (.list ds) ≤ 64 := by simp only [PyData.depth]; omega
  have h4 : PyData.depth (.tuple ds) ≤ 64 := by simp only [PyData.depth]; omega
  exact ⟨Bool.and_eq_true_iff.mpr ⟨h1, decide_eq_true h3⟩, Bool.and_eq_true_iff.mpr ⟨h2, decide_eq_true h4⟩⟩
theorem pr_in : PurR2 W (rInU W.K) pIn := by
  intro G H x y dx dy Q Q' e f1 f2 k h
  unfold pIn pInG at h
  split at h
  · cases f1; cases f2
    obtain ⟨c, rfl, q⟩ := h
    rw [Bool.false_xor] at q
    exact .inl ⟨c, _, rfl, rfl, k _ _ G H (Grow.refl e) (.bl _) q⟩
  · cases f2
    rename_i hs t
    obtain ⟨a, b, c, d, q⟩ := in_of e f1 t h.1
    rw [Bool.false_xor, ← q] at h
    exact .inr (.inl ⟨_, _, a, .lst (SqL.of (e _ _ hs)) b, c, (sh_l d).1, k _ _ G H (Grow.refl e) (.bl _) h.2⟩)
  · cases f2
    rename_i hs t
    obtain ⟨a, b, c, d, q⟩ := in_of e f1 t h.1
    rw [← q] at h
    exact .inr (.inr ⟨_, _, a, .tup (sqt_mono e hs) b, c, (sh_l d).2, k _ _ G H (Grow.refl e) (.bl _) h.2⟩)
  · exact h.elim
theorem pr_notin : PurR2 W (rNotInU W.K) pNotIn := by
  intro G H x y dx dy Q Q' e f1 f2 k h
  unfold pNotIn pInG at h
  split at h
  · cases f1; cases f2
    obtain ⟨c, rfl, q⟩ := h
    rw [Bool.true_xor] at q
    exact .inl ⟨c, _, rfl, rfl, k _ _ G H (Grow.refl e) (.bl _) q⟩
  · cases f2
    rename_i hs t
    obtain ⟨a, b, c, d, q⟩ := in_of e f1 t h.1
    rw [Bool.true_xor, ← q] at h
    exact .inr (.inl ⟨_, _, a, .lst (SqL.of (e _ _ hs)) b, c, (sh_l d).1, k _ _ G H (Grow.refl e) (.bl _) h.2⟩)
  · cases f2
    rename_i hs t
    obtain ⟨a, b, c, d, q⟩ := in_of e f1 t h.1
    rw [← q] at h
    exact .inr (.inr ⟨_, _, a, .tup (sqt_mono e hs) b, c, (sh_l d).2, k _ _ G H (Grow.refl e) (.bl _) h.2⟩)
  · exact h.elim
end
end Pu

set_option Elab.async false
set_option linter.all false
set_option maxRecDepth 100000
namespace Pu
open PySem PySem.Spec PyProof.Rows
open L2
/-! ### the texts of data -/
mutual
/-- no longer than this -/
def D.rc : D → Nat
  | .bl _ => 5
  | .non => 4
  | .int _ => 22
  | .str x => 10 * x.length + 2
  | .tup xs => D.rcs xs + 3
  | .lst xs => D.rcs xs + 3
  | _ => 0
def D.rcs : List D → Nat
  | [] => 0
  | d :: ds => D.rc d + 2 + D.rcs ds
end
mutual
/-- ints of at most 20 digits -/
def D.rok : D → Bool
  | .int i => decide (i.natAbs < 10 ^ 20)
  | .tup xs => D.roks xs
  | .lst xs => D.roks xs
  | _ => true
def D.roks : List D → Bool
  | [] => true
  | d :: ds => D.rok d && D.roks ds
end
theorem list_text : ∀ ts : List PySem.Str, (listText ts).length ≤ piled ts + 2
  | [] => by decide +kernel
  | t :: ts => by
    have h := textFrom_length_pos ts 1 (Str.ofString "[" ++ (Str.ofString "" ++ t)) (by decide)
    unfold listText
    rw [Str.length_append]
    have e1 : (Str.ofString "]").length = 1 := by decide +kernel
    have e2 : (Str.ofString "[").length = 1 := by decide +kernel
    have : (textFrom 0 "[" (t :: ts)).length ≤ 1 + t.length + piled ts := by
      have e : textFrom 0 "[" (t :: ts) = textFrom 1 ((Str.ofString "[" ++ Str.ofString "") ++ t) ts := rfl
      rw [e, textFrom_length_pos ts 1 _ (by decide)]
      simp only [Str.length_append, e2, show (Str.ofString "").length = 0 from by decide +kernel]
      omega
    rw [piled_cons, e1]
    omega
theorem tup_text (ts : List PySem.Str) : (tupleText ts).length ≤ piled ts + 3 := by
  unfold tupleText
  rw [Str.length_append, Str.length_append]
  have e1 : ((("(" : String) : PySem.Str)).length = 1 := by decide +kernel
  have e2 : (((if ts.length == 1 then ",)" else ")" : String) : PySem.Str)).length ≤ 2 := by split <;> decide +kernel
  by_cases h : ts = []
  · subst h; decide +kernel
  · have := join_length_add ts h
    omega
theorem okStr_lt {x : PySem.Str} (h : okStr x = true) : ∀ c ∈ x.cps.toList, c < 16 ^ 8 := fun c hc => by
  unfold okStr at h
  rw [← Array.all_toList, List.all_eq_true] at h
  have := of_decide_eq_true (h c hc)
  omega
mutual
theorem D.shown_le : ∀ (n : Nat) (d : D), D.pl n d = true → D.rok d = true → d.py.showable = true ∧ d.py.hasDict = false ∧ d.py.shown.length ≤ D.rc d
  | _, .non, _, _ => by
    simp only [D.py, PyData.showable, PyData.hasDict, PyData.shown, D.rc]
    exact ⟨trivial, trivial, by decide +kernel⟩
  | _, .bl b, _, _ => by
    simp only [D.py, PyData.showable, PyData.hasDict, PyData.shown, D.rc]
    exact ⟨trivial, trivial, by cases b <;> decide +kernel⟩
  | _, .int i, _, h => by
    have h' : i.natAbs < 10 ^ 20 := of_decide_eq_true h
    simp only [D.py, PyData.showable, PyData.hasDict, PyData.shown, D.rc]
    have hl := int_text_length_le10 (a := i) (k := 20) (by decide) h'
    refine ⟨decide_eq_true ?_, trivial, ?_⟩
    · by_cases h0 : i.natAbs = 0
      · rw [h0]; decide
      · have : i.natAbs.log2 < 67 := (Nat.log2_lt h0).mpr (by omega)
        omega
    · have e : (Str.ofString (toString i)).length = (toString i).length := PySem.ofString_length _
      show (Str.ofString (toString i)).length ≤ 22
      omega
  | _, .str x, h, _ => by
    have h' : okStr x = true := by simpa only [D.pl] using h
    simp only [D.py, PyData.showable, PyData.hasDict, PyData.shown, D.rc]
    exact ⟨trivial, trivial, StrLaws.reprText_len x (okStr_lt h')⟩
  | n + 1, .tup xs, h, q => by
    obtain ⟨a, b, c⟩ := D.showns_le n xs (by simpa only [D.pl] using h) (by simpa only [D.rok] using q)
    simp only [D.py, PyData.showable, PyData.hasDict, PyData.shown, D.rc]
    have := tup_text (PyData.shownAll (D.pys xs))
    exact ⟨a, b, by omega⟩
  | n + 1, .lst xs, h, q => by
    obtain ⟨a, b, c⟩ := D.showns_le n xs (by simpa only [D.pl] using h) (by simpa only [D.rok] using q)
    simp only [D.py, PyData.showable, PyData.hasDict, PyData.shown, D.rc]
    have := list_text (PyData.shownAll (D.pys xs))
    exact ⟨a, b, by omega⟩
  | 0, .tup _, h, _ => by simp [D.pl] at h
  | 0, .lst _, h, _ => by simp [D.pl] at h
  | 0, .dct _ _, h, _ => by simp [D.pl] at h
  | 0, .obj _ _ _, h, _ => by simp [D.pl] at h
  | _ + 1, .obj _ _ _, h, _ => by simp [D.pl] at h
  | 0, .hdl _ _, h, _ => by simp [D.pl] at h
  | 0, .cls _, h, _ => by simp [D.pl] at h
  | 0, .ty _, h, _ => by simp [D.pl] at h
  | 0, .exc _ _ _ _, h, _ => by simp [D.pl] at h
  | 0, .scr _, h, _ => by simp [D.pl] at h
  | _ + 1, .scr _, h, _ => by simp [D.pl] at h
  | _ + 1, .ty _, h, _ => by simp [D.pl] at h
  | _ + 1, .exc _ _ _ _, h, _ => by simp [D.pl] at h
  | _ + 1, .dct _ _, h, _ => by simp [D.pl] at h
  | _ + 1, .hdl _ _, h, _ => by simp [D.pl] at h
  | _ + 1, .cls _, h, _ => by simp [D.pl] at h
theorem D.showns_le : ∀ (n : Nat) (ds : List D), D.pls n ds = true → D.roks ds = true → PyData.showableAll (D.pys ds) = true ∧ PyData.hasDictAll (D.pys ds) = false ∧ piled (PyData.shownAll (D.pys ds)) ≤ D.rcs ds
  | _, [], _, _ => by
    simp only [D.pys, PyData.showableAll, PyData.hasDictAll, PyData.shownAll, D.rcs]
    exact ⟨trivial, trivial, Nat.le_refl _⟩
  | n, d :: ds, h, q => by
    have h' : D.pl n d = true ∧ D.pls n ds = true := by simpa only [D.pls, Bool.and_eq_true] using h
    have q' : D.rok d = true ∧ D.roks ds = true := by simpa only [D.roks, Bool.and_eq_true] using q
    obtain ⟨a1, a2, a3⟩ := D.shown_le n d h'.1 q'.1
    obtain ⟨b1, b2, b3⟩ := D.showns_le n ds h'.2 q'.2
    simp only [D.pys, PyData.showableAll, PyData.hasDictAll, PyData.shownAll, D.rcs, piled_cons, a1, b1, a2, b2]
    exact ⟨rfl, rfl, by omega⟩
end
section
variable {W : Wd} {E : XK} {Xc : XP} {ta tb tc te : TE} {pa pb pc pe : PTE} {tt : TT} {pt : PTT} {Z : Addr → Prop} {σ0 : L2.St} {H G H' G' : Hp} {σ : L2.St} {env : Env} {φ : Nat → Hp}
/-- repr -/
def reprD (d : D) : PySem.Str := d.py.shown
def repOk (d : D) : Prop := D.pl 60 d = true ∧ D.rok d = true ∧ D.rc d ≤ sizeLine
def pRepr (d : D) (Q : D → Prop) : Prop := repOk d ∧ Q (.str (reprD d))
theorem pc_repr : PurC W (rRepr W.K) (p1 pRepr) := pc_1 <| by
  intro G H x d Q Q' e f k ⟨⟨h1, h2, h3⟩, h⟩
  obtain ⟨a, b, c⟩ := D.shown_le 60 d h1 h2
  exact ⟨x, d.py, rfl, dp_same e (D.dp f h1), a, b, (D.lay 60 d h1).2, Nat.le_trans c h3, k _ _ G H (Grow.refl e) (.str _) h⟩
/-- tuple(..), all(..), any(..) -/
def pTuple : D → (D → Prop) → Prop
  | .lst xs, Q => Q (.tup xs)
  | .tup xs, Q => Q (.tup xs)
  | _, _ => False
theorem pc_tuple : PurC W (fun xs H Q => ∃ p ys, xs = [.ref p] ∧ ((SqL W.K H p ys ∧ ∀ l, H l = none → Q (.ref l) (upd H l (.tup ys))) ∨ (SqT W.K H p ys ∧ Q (.ref p) H))) (p1 pTuple) := pc_1 <| by
  intro G H x d Q Q' e f k h
  cases f with
  | @lst a vs ds hs t =>
    refine ⟨_, _, rfl, .inl ⟨SqL.of (e _ _ hs), fun l hl => ?_⟩⟩
    have g := Grow.new (o := .tup vs) e hl
    exact k _ _ _ _ g (.tup (.inl (.inl upd_same)) (t.mono g.g)) h
  | tup hs t => exact ⟨_, _, rfl, .inr ⟨sqt_mono e hs, k _ _ G H (Grow.refl e) (.tup hs t) h⟩⟩
  | _ => exact h.elim
def blsOf : List D → Option (List Bool)
  | [] => some []
  | .bl b :: r => (blsOf r).map (b :: ·)
  | _ => none
theorem blsOf_map (ys : List Bool) : blsOf (ys.map D.bl) = some ys := by
  induction ys with
  | nil => rfl
  | cons y ys ih => simp [blsOf, ih]
theorem of_blsOf : ∀ {ds : List D} {ys : List Bool}, blsOf ds = some ys → ds = ys.map D.bl := by
  intro ds
  induction ds with
  | nil => intro ys h; simp [blsOf] at h; subst h; rfl
  | cons d r ih =>
    intro ys h
    cases d <;> simp only [blsOf, Option.map_eq_some_iff] at h <;> first | (cases h; done) | skip
    obtain ⟨zs, h1, rfl⟩ := h
    rw [ih h1]
    rfl
theorem frs_bls : ∀ {vs : List V} {ys : List Bool}, FRs W G vs (ys.map D.bl) → vs = ys.map V.bl
  | vs, [], h => by cases h; rfl
  | vs, y :: ys, h => by
    cases h with
    | cons h t =>
      cases h
      rw [frs_bls t]
      rfl
def pBls (g : List Bool → Bool) : D → (D → Prop) → Prop
  | .lst ds, Q => ∃ bs, blsOf ds = some bs ∧ Q (.bl (g bs))
  | _, _ => False
theorem pc_all : PurC W (rAll W.K) (p1 (pBls fun bs => bs.all id)) := pc_1 <| by
  intro G H x d Q Q' e f k h
  cases f <;> first | (exact h.elim) | skip
  rename_i a vs ds hs t
  obtain ⟨bs, hb, q⟩ := h
  have := of_blsOf hb
  subst this
  have := frs_bls t
  subst this
  exact ⟨a, bs, rfl, SqL.of (e _ _ hs), k _ _ G H (Grow.refl e) (.bl _) q⟩
theorem pc_any : PurC W (rAny W.K) (p1 (pBls fun bs => bs.any id)) := pc_1 <| by
  intro G H x d Q Q' e f k h
  cases f <;> first | (exact h.elim) | skip
  rename_i a vs ds hs t
  obtain ⟨bs, hb, q⟩ := h
  have := of_blsOf hb
  subst this
  have := frs_bls t
  subst this
  exact ⟨a, bs, rfl, SqL.of (e _ _ hs), k _ _ G H (Grow.refl e) (.bl _) q⟩
/-- str(int), str(text), int(text), ord(sign) -/
def rStrU : List V → Hp → VK → Prop := fun xs H Q => (∃ i, xs = [.int i] ∧ i.natAbs.log2 < 1920 ∧ Q (.str (toString i)) H) ∨ ∃ a, xs = [.str a] ∧ Q (.str a) H
theorem CallR.or {X : Cx} {f : Value} {r r' : List V → Hp → VK → Prop} (h : CallR X f r) (h' : CallR X f r') : CallR X f (fun xs H Q => r xs H Q ∨ r' xs H Q) := by
  intro pins s σ H xs us Q I rv q
  rcases q with q | q
  · exact h pins s σ H xs us Q I rv q
  · exact h' pins s σ H xs us Q I rv q
def pStr : D → (D → Prop) → Prop
  | .int i, Q => i.natAbs.log2 < 1920 ∧ Q (.str (toString i))
  | .str x, Q => Q (.str x)
  | _, _ => False
theorem pc_str : PurC W rStrU (p1 pStr) := pc_1 <| by
  intro G H x d Q Q' e f k h
  cases f with
  | int i => exact .inl ⟨i, rfl, h.1, k _ _ G H (Grow.refl e) (.str _) h.2⟩
  | str y => exact .inr ⟨y, rfl, k _ _ G H (Grow.refl e) (.str _) h⟩
  | _ => exact h.elim
abbrev rIntS : List V → Hp → VK → Prop := fun xs H Q => ∃ a n, xs = [.str a] ∧ PySem.intText? a = some n ∧ a.length ≤ 640 ∧ Q (.int n) H
def rIntU : List V → Hp → VK → Prop := fun xs H Q => ((∃ i, xs = [.int i] ∧ Q (.int i) H) ∨ ∃ k, xs = [.bl k] ∧ Q (.int (if k then 1 else 0)) H) ∨ rIntS xs H Q
def pInt : D → (D → Prop) → Prop
  | .int i, Q => Q (.int i)
  | .bl b, Q => Q (.int (if b then 1 else 0))
  | .str x, Q => ∃ n, PySem.intText? x = some n ∧ x.length ≤ 640 ∧ Q (.int n)
  | _, _ => False
theorem pc_int : PurC W rIntU (p1 pInt) := pc_1 <| by
  intro G H x d Q Q' e f k h
  cases f with
  | int i => exact .inl (.inl ⟨i, rfl, k _ _ G H (Grow.refl e) (.int _) h⟩)
  | bl b => exact .inl (.inr ⟨b, rfl, k _ _ G H (Grow.refl e) (.int _) h⟩)
  | str y =>
    obtain ⟨n, h1, h2, q⟩ := h
    exact .inr ⟨y, n, rfl, h1, h2, k _ _ G H (Grow.refl e) (.int _) q⟩
  | _ => exact h.elim
def pOrd : D → (D → Prop) → Prop
  | .str x, Q => ∃ c, x = ⟨#[c]⟩ ∧ Q (.int (c : Nat))
  | _, _ => False
theorem pc_ord : PurC W (fun xs H Q => ∃ x, xs = [.str x] ∧ x.length = 1 ∧ Q (.int (x.cps.getD 0 0 : Nat)) H) (p1 pOrd) := pc_1 <| by
  intro G H x d Q Q' e f k h
  cases f <;> first | (exact h.elim) | skip
  obtain ⟨c, rfl, q⟩ := h
  exact ⟨_, rfl, rfl, k _ _ G H (Grow.refl e) (.int _) q⟩
/-- min, max of two ints -/
def pMax (g : Int → Int → Int) : List D → (D → Prop) → Prop
  | [.int i, .int j], Q => Q (.int (g i j))
  | _, _ => False
theorem pc_max : PurC W (fun xs H Q => ∃ i j, xs = [.int i, .int j] ∧ Q (.int (if j > i then j else i)) H) (pMax fun i j => if j > i then j else i) := by
  intro G H xs ds Q Q' e f k h
  unfold pMax at h
  split at h
  · rename_i i j
    obtain ⟨v, u, rfl, f1, f2⟩ := frs2 f
    cases f1; cases f2
    exact ⟨i, j, rfl, k _ _ G H (Grow.refl e) (.int _) h⟩
  · exact h.elim
theorem pc_min : PurC W (fun xs H Q => ∃ i j, xs = [.int i, .int j] ∧ Q (.int (if j < i then j else i)) H) (pMax fun i j => if j < i then j else i) := by
  intro G H xs ds Q Q' e f k h
  unfold pMax at h
  split at h
  · rename_i i j
    obtain ⟨v, u, rfl, f1, f2⟩ := frs2 f
    cases f1; cases f2
    exact ⟨i, j, rfl, k _ _ G H (Grow.refl e) (.int _) h⟩
  · exact h.elim
/-- text.split(sep), partition, startswith -/
theorem frs_of_strs : ∀ ys : List PySem.Str, FRs W G (ys.map V.str) (ys.map D.str)
  | [] => .nil
  | _ :: ys => .cons (.str _) (frs_of_strs ys)
def pSplit : D → D → (D → Prop) → Prop
  | .str a, .str b, Q => (b.length == 0) = false ∧ a.length + 2 ≤ sizeLine ∧ Q (.lst ((Txt.split a b).map D.str))
  | _, _, _ => False
theorem pr_split : PurR2 W (fun x y => (fun (x : V) (xs : List V) (H : Hp) (Q : VK) => ∃ a b, x = .str a ∧ xs = [.str b] ∧ (b.length == 0) = false ∧ a.length + 2 ≤ sizeLine ∧ rNewStrs (Txt.split a b) H Q) x [y]) pSplit := by
  intro G H x y dx dy Q Q' e f1 f2 k h
  cases f1 <;> first | (exact h.elim) | skip
  cases f2 <;> first | (exact h.elim) | skip
  rename_i a b
  refine ⟨_, _, rfl, rfl, h.1, h.2.1, fun p hp => ?_⟩
  have g := Grow.new (o := .lst ((Txt.split a b).map V.str)) e hp
  exact k _ _ _ _ g (.lst upd_same (frs_of_strs _)) h.2.2
def pPart : D → D → (D → Prop) → Prop
  | .str a, .str b, Q => (b.length == 0) = false ∧ a.length ≤ sizeLine ∧ Q (.tup [.str (Txt.partition a b).1, .str (Txt.partition a b).2.1, .str (Txt.partition a b).2.2])
  | _, _, _ => False
theorem pr_partition : PurR2 W (fun x y => (fun (x : V) (xs : List V) (H : Hp) (Q : VK) => ∃ a b, x = .str a ∧ xs = [.str b] ∧ (b.length == 0) = false ∧ a.length ≤ sizeLine ∧
      ∀ p, H p = none → Q (.ref p) (upd H p (.tup [.str (Txt.partition a b).1, .str (Txt.partition a b).2.1, .str (Txt.partition a b).2.2]))) x [y]) pPart := by
  intro G H x y dx dy Q Q' e f1 f2 k h
  cases f1 <;> first | (exact h.elim) | skip
  cases f2 <;> first | (exact h.elim) | skip
  rename_i a b
  refine ⟨_, _, rfl, rfl, h.1, h.2.1, fun p hp => ?_⟩
  have g := Grow.new (o := .tup [.str (Txt.partition a b).1, .str (Txt.partition a b).2.1, .str (Txt.partition a b).2.2]) e hp
  exact k _ _ _ _ g (.tup (.inl (.inl upd_same)) (.cons (.str _) (.cons (.str _) (.cons (.str _) .nil)))) h.2.2
/-- over a text -/
def stO : D → Option PySem.Str
  | .str x => some x
  | .non => none
  | .bl _ => none
  | .int _ => none
  | .lst _ => none
  | .tup _ => none
  | .dct _ _ => none
  | .obj _ _ _ => none
  | .hdl _ _ => none
  | .cls _ => none
  | .ty _ => none
  | .exc _ _ _ _ => none
  | .scr _ => none
def signsD (x : PySem.Str) : List D := x.cps.toList.map fun c => D.str ⟨#[c]⟩
def iS (pe : PTE) : PTA := fun env Q => pe env fun d e1 => ∃ x, stO d = some x ∧ Q (signsD x) e1
theorem it_str {x : PySem.Str} : IT W G (Its x) (signsD x) := by
  have len : (signsD x).length = x.cps.size := by simp [signsD]
  have at_ : ∀ i : Nat, (signsD x)[i]? = (x.cps[i]?).map fun c => D.str ⟨#[c]⟩ := fun i => by
    unfold signsD
    rw [List.getElem?_map, Array.getElem?_toList]
  refine ⟨fun i H _ h => ?_, fun i H _ h => ?_, fun i d H y H' e hd hy => ?_⟩
  · show x.cps.size ≤ i
    omega
  · show i < x.cps.size
    omega
  · obtain ⟨rfl, c, hc, rfl⟩ := hy
    rw [at_, hc] at hd
    cases hd
    exact ⟨G, Grow.refl e, .str _⟩
theorem puri_str (h : PurE W E Xc te pe) : PurI W E Xc (iStr te) (iS pe) := by
  intro Z σ0 H G σ env φ R Q' e x k q
  refine h Z σ0 H G σ env φ _ _ e x (fun v d H1 G1 e1 p1 t1 r1 f1 q1 => ?_) q
  obtain ⟨y, hy, q1⟩ := q1
  cases f1 <;> first | (cases hy; done) | skip
  cases hy
  exact ⟨_, rfl, k _ _ H1 G1 e1 p1 t1 r1 (fun G2 s => it_str) q1⟩
end
end Pu

set_option Elab.async false
set_option linter.all false
set_option maxRecDepth 100000
namespace Pu
open PySem PySem.Spec L2
abbrev rGe0 : R2 := rI0 fun i j => .bl (decide (j ≤ i))
/-- what _law_take does -/
def t_take (K : PySem.W.Frag) : TS :=
  tSeq (tIfS (tTest (tOp rLt0 (tVar 1) (i0 1))) (tRet (i0 0)) tNext)
  (tSeq (tAsg (tOp (rIx K) (tVar 0) (i0 1)) (gName 2))
  (tSeq (tAsg (tOp rMod0 (tOp (rIx K) (tVar 0) (i0 0)) (tCB (rLenA K) (tCons (tVar 2) tNil))) (gName 3))
  (tSeq (tAsg (tOp (rIx K) (tVar 2) (tVar 3)) (gName 4))
  (tSeq (tIfS (tTest (tOp rGe0 (tVar 4) (i0 1000000000000000000)))
    (tSeq (tAsg (tOp rDiv0 (tVar 4) (tVar 1)) (gSub (tVar 2) (tVar 3) rSetL))
    (tRet (tOp rMod0 (tVar 4) (tVar 1)))) tNext)
  (tSeq (tAsg (tOp (rPlus K) (tOp (rIx K) (tVar 0) (i0 0)) (i0 1)) (gSub (tVar 0) (i0 0) rSetL))
  (tSeq (tAsg (tOp rMod0 (tCB rInt1 (tCons (tOp (rPlus K) (tOp rTimes (tVar 4) (i0 48271)) (tOp rTimes (tOp (rIx K) (tVar 0) (i0 0)) (i0 69621))) tNil)) (i0 2147483647)) (gName 5))
  (tSeq (tAsg (tOp rMod0 (tCB rInt1 (tCons (tOp (rPlus K) (tOp rTimes (tVar 5) (i0 16807)) (tOp rTimes (tOp (rIx K) (tVar 0) (i0 0)) (i0 7919))) tNil)) (i0 1000000007)) (gName 5))
  (tRet (tOp rMod0 (tOp rDiv0 (tVar 5) (i0 7)) (tVar 1))))))))))
section
variable {P : Program} {w : World} {K : PySem.W.Frag} {H : Hp} {Q : VK}
theorem len_l {c : Addr} {vs : List V} (h : H c = some (.lst vs)) (q : Q (.int vs.length) H) : rLenA K [.ref c] H Q := ⟨_, vs.length, rfl, .inl ⟨_, SqL.of h, rfl⟩, q⟩
theorem ix_l {c : Addr} {vs : List V} {i : Int} {v : V} (h : H c = some (.lst vs)) (hv : atI vs i = some v) (q : Q v H) : rIx K (.ref c) (.int i) H Q := .inl ⟨c, _, i, v, rfl, rfl, SqL.of h, hv, q⟩
theorem mod_i {i j : Int} (h : 0 < j) (q : Q (.int (i % j)) H) : rMod0 (.int i) (.int j) H Q := ⟨i, j, rfl, rfl, h, q⟩
theorem div_i {i j : Int} (h : 0 < j) (h2 : j < 1073741824) (q : Q (.int (i / j)) H) : rDiv0 (.int i) (.int j) H Q := ⟨i, j, rfl, rfl, ⟨h, h2⟩, q⟩
theorem add_i {i j : Int} (q : Q (.int (i + j)) H) : rPlus K (.int i) (.int j) H Q := .inl ⟨i, j, rfl, rfl, q⟩
theorem mul_i {i j : Int} (h : -(2 ^ 64) < j ∧ j < 2 ^ 64) (q : Q (.int (i * j)) H) : rTimes (.int i) (.int j) H Q := .inl ⟨i, j, rfl, rfl, .inr h, q⟩
theorem int_i {i : Int} (q : Q (.int i) H) : rInt1 [.int i] H Q := .inl ⟨i, rfl, q⟩
theorem set_l {c : Addr} {vs : List V} {i : Int} {j : Nat} {v : V} {R : Hp → Prop} (h : H c = some (.lst vs)) (hj : ixN vs.length i = some j) (q : R (upd H c (.lst (vs.set j v)))) : rSetL (.ref c) (.int i) v H R := ⟨c, vs, i, j, rfl, rfl, h, hj, q⟩
theorem ixN_nat {n k : Nat} (h : k < n) : ixN n (k : Int) = some k := by
  unfold ixN
  rw [if_pos (by omega), if_pos (by omega)]
  simp
theorem take_read {N : List PySem.Str} (hN : N.length = 6) (vs : List V) (H : Hp) (Q : VK) (E : XK) (h : spOf (wd P w K) psTake vs H Q E) : t_take K { nx := fun _ H' => Q .non H', rt := Q } (L2.start N vs) H := by
  obtain ⟨G, as, φ, Q', Xc, e, ⟨many, rfl, hm, q⟩, k, _⟩ := h
  have hl := e.len.1
  rw [List.length_map] at hl
  match vs, hl with
  | [u, v], _ =>
  obtain ⟨u', a1, a2, a3⟩ := e.sl 0 _ rfl
  obtain ⟨v', b1, b2⟩ := e.sl 1 _ rfl
  simp at a1 b1
  subst a1 b1
  cases b2
  cases a3 with
  | hdl r =>
  obtain ⟨a, c, cells, idx, rfl, _, hac, hFa, hFc, hne⟩ := r
  have hs : L2.start N [.ref a, .int many] = [some (.ref a), some (.int many), none, none, none, none] := by
    unfold L2.start
    rw [hN]
    rfl
  rw [hs]
  have ha := ne_none_of hFa
  have hc := ne_none_of hFc
  have hHa := e.sub 0 a _ hFa
  have hHc := e.sub 0 c _ hFc
  have pos : 0 < cells.length := List.length_pos_iff.mpr hne
  have rep : ∀ (cells2 : List Int) (idx2 : Int), cells2 ≠ [] → ∀ F : Hp, F a = some (.lst [.int idx2, .ref c]) → F c = some (.lst (cells2.map V.int)) → OR (wd P w K) G F (.ref a) stB := fun cells2 idx2 hn F h1 h2 => .hdl ⟨a, c, cells2, idx2, rfl, rfl, hac, h1, h2, hn⟩
  refine ⟨_, rfl, _, _, rfl, rfl, _, rfl, ?_⟩
  by_cases hmany : many < 1
  · rw [decide_eq_true hmany]; refine ifT ?_
    obtain ⟨t, r⟩ := draw_out (cells2 := cells) (st := stB) (rep cells idx hne) e ha hc hac (H2 := H) hHa hHc (fun _ _ _ => rfl)
    exact k _ (.frz (.int 0)) emp H G _ _ t r (.int 0) (q 0 (by omega) (.inr rfl))
  rw [decide_eq_false hmany]; refine ifF ?_
  have fin : ∀ {v : Int}, Q' (.frz (.int (v % many))) [.par stB, .nil] := fun {v} => q _ (Int.emod_nonneg _ (by omega)) (.inl (Int.emod_lt_of_pos _ (by omega)))
  refine ⟨_, rfl, ix_l hHa (by rfl) ?_⟩
  refine ⟨_, rfl, ix_l hHa atI0 ⟨_, rfl, _, (cells.map V.int).length, rfl, .inl ⟨_, SqL.of hHc, rfl⟩, ?_⟩⟩
  have hcl : (0 : Int) < (cells.map V.int).length := by rw [List.length_map]; omega
  refine mod_i hcl ?_
  have m0 : 0 ≤ idx % ((cells.map V.int).length : Int) := Int.emod_nonneg _ (by omega)
  have m1 : idx % ((cells.map V.int).length : Int) < (cells.map V.int).length := Int.emod_lt_of_pos _ hcl
  generalize hat : idx % ((cells.map V.int).length : Int) = at_ at m0 m1
  obtain ⟨p, rfl⟩ : ∃ p : Nat, at_ = p := ⟨at_.toNat, by omega⟩
  have hp : p < (cells.map V.int).length := by omega
  have hp' : p < cells.length := by rw [List.length_map] at hp; exact hp
  have hv : atI (cells.map V.int) (p : Int) = some (.int cells[p]) := Pu.atI_nat (by rw [List.getElem?_map, List.getElem?_eq_getElem hp']; rfl)
  refine ⟨_, rfl, _, rfl, ix_l hHc hv ?_⟩
  generalize cells[p] = cell
  refine ⟨_, rfl, _, _, rfl, rfl, _, rfl, ?_⟩
  by_cases hb : (1000000000000000000 : Int) ≤ cell
  · rw [decide_eq_true hb]; refine ifT ?_
    refine ⟨_, rfl, _, rfl, div_i (by omega) hm ?_⟩
    refine ⟨_, rfl, _, rfl, set_l hHc (ixN_nat hp) ?_⟩
    refine ⟨_, rfl, _, rfl, mod_i (by omega) ?_⟩
    have es : (cells.map V.int).set p (.int (cell / many)) = (cells.set p (cell / many)).map V.int := by rw [List.map_set]
    have hn2 : cells.set p (cell / many) ≠ [] := fun z => by
      have := congrArg List.length z
      simp at this
      exact hne this
    obtain ⟨t, r⟩ := draw_out (cells2 := cells.set p (cell / many)) (st := stB) (rep _ idx hn2) e ha hc hac (H2 := upd H c (.lst ((cells.map V.int).set p (.int (cell / many))))) (by rw [upd_ne hac]; exact hHa) (by rw [upd_same, es]) (fun b h1 h2 => upd_ne h2)
    exact k _ (.frz (.int _)) emp _ G _ _ t r (.int _) fin
  · rw [decide_eq_false hb]; refine ifF ?_
    refine ⟨_, rfl, ix_l hHa atI0 (add_i ?_)⟩
    refine ⟨_, rfl, set_l (j := 0) hHa rfl ?_⟩
    have hA2 : upd H a (.lst ([V.int idx, .ref c].set 0 (.int (idx + 1)))) a = some (.lst [.int (idx + 1), .ref c]) := upd_same
    refine ⟨_, rfl, mul_i (by omega) ⟨_, rfl, ix_l hA2 atI0 (mul_i (by omega) (add_i (.inl ⟨_, rfl, _, _, rfl, rfl, (by decide : (0 : Int) < 2147483647), ?_⟩)))⟩⟩
    refine ⟨_, rfl, mul_i (by omega) ⟨_, rfl, ix_l hA2 atI0 (mul_i (by omega) (add_i (.inl ⟨_, rfl, _, _, rfl, rfl, (by decide : (0 : Int) < 1000000007), ?_⟩)))⟩⟩
    refine ⟨_, rfl, _, _, rfl, rfl, (by decide : (0 : Int) < 7 ∧ (7 : Int) < 1073741824), _, rfl, _, _, rfl, rfl, (show (0 : Int) < many by omega), ?_⟩
    obtain ⟨t, r⟩ := draw_out (cells2 := cells) (st := stB) (rep cells (idx + 1) hne) e ha hc hac (H2 := upd H a (.lst ([V.int idx, .ref c].set 0 (.int (idx + 1))))) hA2 (by rw [upd_ne (Ne.symm hac)]; exact hHc) (fun b h1 h2 => upd_ne h1)
    exact k _ (.frz (.int _)) emp _ G _ _ t r (.int _) fin
theorem rd_take {m : Int} {Q : Slot → Env → Prop} {X : XP} : psTake [.par stB, .frz (.int m)] Q X ↔ m < 1073741824 ∧ ∀ v, 0 ≤ v → (v < m ∨ v = 0) → Q (.frz (.int v)) [.par stB, .nil] := by
  constructor
  · rintro ⟨y, e, h⟩
    cases e
    exact h
  · exact fun h => ⟨m, rfl, h⟩
end
end Pu

set_option Elab.async false
set_option linter.all false
set_option maxRecDepth 100000
namespace Pu
open PySem PySem.Spec L2
/-! ### slices whose ends do something -/
abbrev PEO := Env → (Option Int → Env → Prop) → Prop
section
variable {W : Wd} {E : XK} {Xc : XP} {ta te : TE} {pa pe : PTE} {tl th : TO} {pl ph : PEO} {Z : Addr → Prop} {σ0 : L2.St} {H G H' G' : Hp} {σ : L2.St} {env : Env} {φ : Nat → Hp}
def PurEO (W : Wd) (E : XK) (Xc : XP) (to : TO) (po : PEO) : Prop :=
  ∀ Z σ0 H G σ env φ (Q : Option Int → Hp → Prop) (Q' : Option Int → Env → Prop), ER W Z σ0 H G σ env φ → XOk W Z G H E Xc →
    (∀ b H' G' env' φ', Ext Z G H G' H' → ER W Z σ0 H' G' σ env' φ' → Q' b env' → Q b H') → po env Q' → to σ H Q
def eNo : PEO := fun env Q => Q none env
def ePart (pe : PTE) : PEO := fun env Q => pe env fun d e1 => asI (fun i => Q (some i) e1) d
theorem pureo_no : PurEO W E Xc tNoPart eNo := fun Z σ0 H G σ env φ Q Q' e x k h => k none H G env φ .refl e h
theorem pureo_part (h : PurE W E Xc te pe) : PurEO W E Xc (tPart te) (ePart pe) := by
  intro Z σ0 H G σ env φ Q Q' e x k q
  refine h Z σ0 H G σ env φ _ _ e x (fun u d H1 G1 e1 p1 t1 r1 f1 q1 => ?_) q
  cases f1 <;> first | (exact q1.elim) | exact ⟨_, rfl, k _ H1 G1 e1 p1 t1 r1 q1⟩
def eCutE (pa : PTE) (pl ph : PEO) : PTE := fun env Q => pa env fun d e1 => pl e1 fun lo e2 => ph e2 fun hi e3 => pCut d lo hi fun r => Q r e3
theorem pure_cutE (ha : PurE W E Xc ta pa) (hl : PurEO W E Xc tl pl) (hh : PurEO W E Xc th ph) : PurE W E Xc (tSl (rCut W.K) ta tl th) (eCutE pa pl ph) := by
  intro Z σ0 H G σ env φ Q Q' e x k q
  refine ha Z σ0 H G σ env φ _ _ e x (fun u d H1 G1 e1 p1 t1 r1 f1 q1 => ?_) q
  refine hl Z σ0 H1 G1 σ e1 p1 _ _ r1 (x.ext t1) (fun lo H2 G2 e2 p2 t2 r2 q2 => ?_) q1
  refine hh Z σ0 H2 G2 σ e2 p2 _ _ r2 ((x.ext t1).ext t2) (fun hi H3 G3 e3 p3 t3 r3 q3 => ?_) q2
  refine pr_cut G3 H3 u d lo hi _ _ r3.gh ((f1.mono t2.g).mono t3.g) (fun v d G4 H4 g4 f4 q4 => ?_) q3
  obtain ⟨r4, t4⟩ := r3.grow g4
  exact k v d H4 G4 e3 p3 (((t1.trans t2).trans t3).trans t4) r4 f4 q4
end
/-! ### written tables -/
def vl : Value → V
  | .bool b => .bl b
  | .int i _ => .int i
  | .str x _ => .str x
  | .ref a => .ref a
  | .type n => .ty n
  | _ => .non
mutual
/-- the module's object is this data -/
def frB (K : PySem.W.Frag) : D → Value → Bool
  | .non, u => match u with
    | .none => true
    | _ => false
  | .bl c, u => match u with
    | .bool b => b == c
    | _ => false
  | .int j, u => match u with
    | .int i _ => decide (i = j)
    | _ => false
  | .str y, u => match u with
    | .str x _ => decide (x = y)
    | _ => false
  | .tup ds, u => match u with
    | .ref a => (match K.lookup a with
      | some ⟨.type c, _, .seq its _, _⟩ => decide (c = "tuple") && (decide (its.size ≤ sizeLine) && frsB K ds its.toList)
      | _ => false)
    | _ => false
  | _, _ => false
def frsB (K : PySem.W.Frag) : List D → List Value → Bool
  | [], us => us.isEmpty
  | d :: ds, us => match us with
    | u :: us => frB K d u && frsB K ds us
    | [] => false
end
mutual
theorem frB_ok {W : Wd} {G : Hp} : ∀ (d : D) (u : Value), frB W.K d u = true → L2.RelV (vl u) u ∧ FR W G (vl u) d
  | .non, u, h => by
    unfold frB at h
    split at h
    · exact ⟨rfl, .non⟩
    · cases h
  | .bl c, u, h => by
    unfold frB at h
    split at h
    · have h' := eq_of_beq h
      subst h'
      exact ⟨rfl, .bl _⟩
    · cases h
  | .int j, u, h => by
    unfold frB at h
    split at h
    · have h' := of_decide_eq_true h
      subst h'
      exact ⟨⟨_, rfl⟩, .int _⟩
    · cases h
  | .str y, u, h => by
    unfold frB at h
    split at h
    · have h' := of_decide_eq_true h
      subst h'
      exact ⟨⟨_, rfl⟩, .str _⟩
    · cases h
  | .tup ds, u, h => by
    unfold frB at h
    split at h
    · rename_i a
      split at h
      · rename_i c od its m sl ho
        simp only [Bool.and_eq_true, decide_eq_true_eq] at h
        obtain ⟨rfl, h2, h3⟩ := h
        obtain ⟨r, t⟩ := frsB_ok (W := W) (G := G) ds its.toList h3
        exact ⟨rfl, .tup (.inr ⟨_, its, m, ho, rfl, rfl, h2, r⟩) t⟩
      · cases h
    · cases h
  | .lst _, u, h => by unfold frB at h; cases h
  | .dct _ _, u, h => by unfold frB at h; cases h
  | .obj _ _ _, u, h => by unfold frB at h; cases h
  | .hdl _ _, u, h => by unfold frB at h; cases h
  | .cls _, u, h => by unfold frB at h; cases h
  | .ty _, u, h => by unfold frB at h; cases h
  | .exc _ _ _ _, u, h => by unfold frB at h; cases h
  | .scr _, u, h => by unfold frB at h; cases h
theorem frsB_ok {W : Wd} {G : Hp} : ∀ (ds : List D) (us : List Value), frsB W.K ds us = true → Vals (us.map vl) us ∧ FRs W G (us.map vl) ds
  | [], us, h => by
    unfold frsB at h
    have : us = [] := List.isEmpty_iff.mp h
    subst this
    exact ⟨.nil, .nil⟩
  | d :: ds, us, h => by
    unfold frsB at h
    split at h
    · rename_i u us
      have h' := Bool.and_eq_true_iff.mp h
      obtain ⟨a, b⟩ := frB_ok (W := W) (G := G) d u h'.1
      obtain ⟨c, e⟩ := frsB_ok (W := W) (G := G) ds us h'.2
      exact ⟨.cons a c, .cons b e⟩
    · cases h
end
structure Kon (K : PySem.W.Frag) (mg : PySem.Str → Option Value) (x : PySem.Str) (v : V) (d : D) : Prop where
  at_ : ∃ u, mg x = some u ∧ L2.RelV v u
  fr : ∀ (W : Wd) (G : Hp), W.K = K → FR W G v d
def konV (K : PySem.W.Frag) (x : PySem.Str) : V := match PySem.W.nsIn K mainGlobals x with
  | some (some u) => vl u
  | _ => .non
def konB (K : PySem.W.Frag) (x : PySem.Str) (d : D) : Bool := match PySem.W.nsIn K mainGlobals x with
  | some (some u) => frB K d u
  | _ => false
theorem konB_ok (P : Program) (w : World) {K : PySem.W.Frag} {h : Heap} {mg : PySem.Str → Option Value} (X : K.In h) (Gn : h.Ns mainGlobals mg) {x : PySem.Str} {d : D} (q : konB K x d = true) : Kon K mg x (konV K x) d := by
  unfold konB at q
  unfold konV
  split at q
  · rename_i u hu
    refine ⟨⟨u, PySem.W.mg_of X Gn hu, ?_⟩, fun W G e => ?_⟩
    · exact (frB_ok (W := wd P w K) (G := emp) d u q).1
    · subst e
      exact (frB_ok (W := W) (G := G) d u q).2
  · cases q
theorem pe_kon {X : Cx} {x : PySem.Str} {v : V} {d : D} {p : Pos} (hg : Gl X x) (k : Kon X.K X.mg x v d) (hd : (x == ("__debug__" : PySem.Str)) = false := by decide) : PE X (.Name x p) (tC v) := by
  obtain ⟨u, h1, h2⟩ := k.at_
  exact pe_glob hg h1 h2 hd
/-! ### defs that ask for repr, by data -/
section
variable {P : Program} {w : World} {K : PySem.W.Frag} {mg : PySem.Str → Option Value} {base : Heap} {x qual : PySem.Str} {st : Stmt} {f : Addr} {fd : FuncData} {N pn : List PySem.Str} {k : Nat} {psp : PSp} {rep : Nat → Hp → Hp → V → D → Prop} {mono : ∀ n G G' F v d, Same G G' → rep n G F v d → rep n G' F v d} {res : ∀ n G F F' v d, (∀ b o, F b = some o → Mut (some o) → F' b = some o) → rep n G F v d → rep n G F' v d}
theorem FnP.pureG (F : FnP K x qual st f fd) (S : FnScope N pn (defScope st)) (hN : pn.length ≤ N.length) (hl : ∀ as Q Xc, psp as Q Xc → as.length = pn.length)
    (hbody : ∀ (cdv : Value) (A : Around) (outer : List PySem.Env) (s : Shared) (H : Hp) (E : XK), NoG A → Room k (A.deeper (PyProof.Rows.envOfC qual (defScope st) s.heap.objs.size f cdv)) →
      ∃ t p, PSs (cxOf CX0 P w K mg base N qual (defScope st) f cdv A outer s H E).nox (defBody st) t ∧ PurS ⟨P, w, K, rep, mono, res⟩ E0 NoX t p ∧ ∀ as Q X', psp as Q X' → p (ends pn.length Q) (as ++ nils (N.length - as.length))) :
    FnOkG P w K mg base CX0 (k + 1) f fd pn (spOf ⟨P, w, K, rep, mono, res⟩ psp) := by
  refine okG_of F S (sp_len hl) (fun cdv A outer s H vs Q E ng hr h => ?_)
  obtain ⟨t, p, hs, hp, hb⟩ := hbody cdv A outer s H E ng hr
  obtain ⟨G, as, φ, Q', Xc, e, q, k, _⟩ := h
  exact ⟨t, hs.nox, body_ok hp hN (hl _ _ _ q) e xok0 (hb _ _ _ q) k⟩
end
structure CalG (P : Program) (w : World) (K : PySem.W.Frag) (mg : PySem.Str → Option Value) (base : Heap) (lv : Nat) (x : PySem.Str) (pn : List PySem.Str) (sp : Sp) (f : Addr) (fd : FuncData) : Prop where
  ok : FnOkG P w K mg base CX0 lv f fd pn sp
  b : Binds K fd pn []
  g : mg x = some (.ref f)
  k : PySem.W.keepIn K (.ref f) = true
end Pu

set_option Elab.async false
set_option linter.all false
set_option maxRecDepth 100000
namespace Pu
open PySem PySem.Spec L2
section
variable {W : Wd} {E : XK} {Xc : XP} {ta tb tc te : TE} {pa pb pc pe : PTE} {Z : Addr → Prop} {σ0 : L2.St} {H G H' G' : Hp} {σ : L2.St} {env : Env} {φ : Nat → Hp}
/-! ### and, or, not as values, with effects -/
def eAndV (p u : PTE) : PTE := fun env Q => p env fun d e1 => asB (fun c => if c = true then u e1 Q else Q (.bl false) e1) d
def eOrV (p u : PTE) : PTE := fun env Q => p env fun d e1 => asB (fun c => if c = true then Q (.bl true) e1 else u e1 Q) d
def eNotV (p : PTE) : PTE := fun env Q => p env fun d e1 => asB (fun c => Q (.bl (!c)) e1) d
theorem pure_andV (h1 : PurE W E Xc ta pa) (h2 : PurE W E Xc tb pb) : PurE W E Xc (tAndV ta tb) (eAndV pa pb) := by
  intro Z σ0 H G σ env φ Q Q' e x k q
  refine h1 Z σ0 H G σ env φ _ _ e x (fun v d H1 G1 e1 p1 t1 r1 f1 q1 => ?_) q
  obtain ⟨c, ec, _, q1⟩ := asB_of f1 q1
  refine ⟨c, ec, ?_⟩
  cases c with
  | true =>
    rw [if_pos rfl] at q1 ⊢
    exact h2 Z σ0 H1 G1 σ e1 p1 Q Q' r1 (x.ext t1) (k.ext t1) q1
  | false =>
    rw [if_neg Bool.false_ne_true] at q1 ⊢
    exact k _ _ H1 G1 e1 p1 t1 r1 (.bl false) q1
theorem pure_orV (h1 : PurE W E Xc ta pa) (h2 : PurE W E Xc tb pb) : PurE W E Xc (tOrV ta tb) (eOrV pa pb) := by
  intro Z σ0 H G σ env φ Q Q' e x k q
  refine h1 Z σ0 H G σ env φ _ _ e x (fun v d H1 G1 e1 p1 t1 r1 f1 q1 => ?_) q
  obtain ⟨c, ec, _, q1⟩ := asB_of f1 q1
  refine ⟨c, ec, ?_⟩
  cases c with
  | false =>
    rw [if_neg Bool.false_ne_true] at q1 ⊢
    exact h2 Z σ0 H1 G1 σ e1 p1 Q Q' r1 (x.ext t1) (k.ext t1) q1
  | true =>
    rw [if_pos rfl] at q1 ⊢
    exact k _ _ H1 G1 e1 p1 t1 r1 (.bl true) q1
theorem pure_notV (h1 : PurE W E Xc ta pa) : PurE W E Xc (tNotV ta) (eNotV pa) := by
  intro Z σ0 H G σ env φ Q Q' e x k q
  refine h1 Z σ0 H G σ env φ _ _ e x (fun v d H1 G1 e1 p1 t1 r1 f1 q1 => ?_) q
  obtain ⟨c, ec, _, q1⟩ := asB_of f1 q1
  exact ⟨c, ec, k _ _ H1 G1 e1 p1 t1 r1 (.bl _) q1⟩
/-- a op b op c -/
def eChain (p p' : D → D → (D → Prop) → Prop) (pa pb pc : PTE) : PTE := fun env Q => pa env fun x e1 => pb e1 fun y e2 => p x y (asB fun c => if c = true then pc e2 fun z e3 => p' y z fun d => Q d e3 else Q (.bl false) e2)
theorem pure_chain {r r' : R2} {p p' : D → D → (D → Prop) → Prop} (hr : PurR2 W r p) (hr' : PurR2 W r' p') (ha : PurE W E Xc ta pa) (hb : PurE W E Xc tb pb) (hc : PurE W E Xc tc pc) : PurE W E Xc (tChain r r' ta tb tc) (eChain p p' pa pb pc) := by
  intro Z σ0 H G σ env φ Q Q' e x k h
  refine ha Z σ0 H G σ env φ _ _ e x (fun v1 d1 H1 G1 e1 p1 t1 r1 f1 q1 => ?_) h
  refine hb Z σ0 H1 G1 σ e1 p1 _ _ r1 (x.ext t1) (fun v2 d2 H2 G2 e2 p2 t2 r2 f2 q2 => ?_) q1
  refine hr G2 H2 v1 v2 d1 d2 _ _ r2.gh (f1.mono t2.g) f2 (fun v3 d3 G3 H3 g3 f3 q3 => ?_) q2
  obtain ⟨r3, t3⟩ := r2.grow g3
  obtain ⟨c, e1', e2', q3⟩ := asB_of f3 q3
  refine ⟨c, e1', ?_⟩
  have t13 := (t1.trans t2).trans t3
  cases c with
  | false =>
    rw [if_neg Bool.false_ne_true] at q3 ⊢
    exact k _ _ H3 G3 e2 p2 t13 r3 (.bl false) q3
  | true =>
    rw [if_pos rfl] at q3 ⊢
    refine hc Z σ0 H3 G3 σ e2 p2 _ _ r3 (x.ext t13) (fun v4 d4 H4 G4 e4 p4 t4 r4 f4 q4 => ?_) q3
    refine hr' G4 H4 v2 v4 d2 d4 _ _ r4.gh ((f2.mono t3.g).mono t4.g) f4 (fun v5 d5 G5 H5 g5 f5 q5 => ?_) q4
    obtain ⟨r5, t5⟩ := r4.grow g5
    exact k v5 d5 H5 G5 e4 p4 ((t13.trans t4).trans t5) r5 f5 q5
end
/-! ### how more of the promises compute -/
section
variable {d : D} {e : Env} {n : Nat} {i j : Int} {b c : Bool} {x y z : PySem.Str} {xs ys : List D} {Q : D → Prop} {ns : List Int}
theorem rd_pLt {Q : D → Prop} : pLt (.int i) (.int j) Q = Q (.bl (decide (i < j))) := rfl
theorem rd_pLe {Q : D → Prop} : pLe (.int i) (.int j) Q = Q (.bl (decide (i ≤ j))) := rfl
theorem rd_pGt {Q : D → Prop} : pGt (.int i) (.int j) Q = Q (.bl (decide (j < i))) := rfl
theorem rd_pGe {Q : D → Prop} : pGe (.int i) (.int j) Q = Q (.bl (decide (j ≤ i))) := rfl
theorem rd_pTuple1 : pTuple (.lst xs) Q = Q (.tup xs) := rfl
theorem rd_pTuple2 : pTuple (.tup xs) Q = Q (.tup xs) := rfl
theorem rd_pStr1 : pStr (.int i) Q = (i.natAbs.log2 < 1920 ∧ Q (.str (toString i))) := rfl
theorem rd_pStr2 : pStr (.str x) Q = Q (.str x) := rfl
theorem rd_pInt : pInt (.int i) Q = Q (.int i) := rfl
theorem rd_pIntS : pInt (.str x) Q = ∃ n, PySem.intText? x = some n ∧ x.length ≤ 640 ∧ Q (.int n) := rfl
theorem rd_pIntB : pInt (.bl b) Q = Q (.int (if b then 1 else 0)) := rfl
theorem rd_pOrd {c : Nat} : pOrd (.str ⟨#[c]⟩) Q ↔ Q (.int (c : Nat)) := ⟨fun ⟨c', e, q⟩ => by cases e; exact q, fun q => ⟨c, rfl, q⟩⟩
theorem rd_pMax {g : Int → Int → Int} : pMax g [.int i, .int j] Q = Q (.int (g i j)) := rfl
theorem rd_pSplit : pSplit (.str x) (.str y) Q = ((y.length == 0) = false ∧ x.length + 2 ≤ sizeLine ∧ Q (.lst ((Txt.split x y).map D.str))) := rfl
theorem rd_pPart : pPart (.str x) (.str y) Q = ((y.length == 0) = false ∧ x.length ≤ sizeLine ∧ Q (.tup [.str (Txt.partition x y).1, .str (Txt.partition x y).2.1, .str (Txt.partition x y).2.2])) := rfl
theorem rd_stO : stO (.str x) = some x := rfl
theorem rd_pCutS {lo hi : Option Int} : pCut (.scr ns) lo hi Q = Q (.lst ((cutD ns lo hi).map D.int)) := rfl
theorem rd_solB : D.sol stB = false := rfl
theorem rd_pIn1 {c : Nat} : pIn (.str ⟨#[c]⟩) (.str z) Q ↔ Q (.bl (decide (c ∈ z.cps.toList))) := by
  show (∃ c', _ ∧ _) ↔ _
  constructor
  · rintro ⟨c', e, q⟩
    cases e
    rw [Bool.false_xor] at q
    exact q
  · exact fun q => ⟨c, rfl, by rw [Bool.false_xor]; exact q⟩
theorem rd_pNotIn1 {c : Nat} : pNotIn (.str ⟨#[c]⟩) (.str z) Q ↔ Q (.bl (!decide (c ∈ z.cps.toList))) := by
  show (∃ c', _ ∧ _) ↔ _
  constructor
  · rintro ⟨c', e, q⟩
    cases e
    rw [Bool.true_xor] at q
    exact q
  · exact fun q => ⟨c, rfl, by rw [Bool.true_xor]; exact q⟩
theorem inL (neg : Bool) : ∀ x : D, pInG neg x (.lst ys) Q = (inOk x ys = true ∧ Q (.bl (neg ^^ decide (x ∈ ys)))) := fun x => by cases x <;> rfl
theorem inT (neg : Bool) : ∀ x : D, pInG neg x (.tup ys) Q = (inOk x ys = true ∧ Q (.bl (neg ^^ decide (x ∈ ys)))) := fun x => by cases x <;> rfl
theorem rd_pIn2 : pIn d (.lst ys) Q = (inOk d ys = true ∧ Q (.bl (decide (d ∈ ys)))) := by unfold pIn; rw [inL, Bool.false_xor]
theorem rd_pIn3 : pIn d (.tup ys) Q = (inOk d ys = true ∧ Q (.bl (decide (d ∈ ys)))) := by unfold pIn; rw [inT, Bool.false_xor]
theorem rd_pNotIn2 : pNotIn d (.lst ys) Q = (inOk d ys = true ∧ Q (.bl (!decide (d ∈ ys)))) := by unfold pNotIn; rw [inL, Bool.true_xor]
theorem rd_pNotIn3 : pNotIn d (.tup ys) Q = (inOk d ys = true ∧ Q (.bl (!decide (d ∈ ys)))) := by unfold pNotIn; rw [inT, Bool.true_xor]
theorem rd_pBls {g : List Bool → Bool} {bs : List Bool} : pBls g (.lst (bs.map D.bl)) Q ↔ Q (.bl (g bs)) := by
  unfold pBls
  constructor
  · rintro ⟨cs, h, q⟩
    rw [blsOf_map] at h
    cases h
    exact q
  · exact fun q => ⟨bs, blsOf_map bs, q⟩
theorem rd_pJoin2 : pJoin (.str x) (.tup xs) Q ↔ ∃ ys : List PySem.Str, xs = ys.map D.str ∧ joinOk x ys ∧ Q (.str (Txt.join x ys)) := by
  have e : pJoin (.str x) (.tup xs) Q = pJoin (.str x) (.lst xs) Q := rfl
  rw [e]
  exact rd_pJoin1
end
end Pu

set_option Elab.async false
set_option linter.all false
set_option maxRecDepth 100000
namespace Pu
open PySem PySem.Spec L2
/-! ### comprehensions without an invariant -/
section
variable {g : PTG} {tt : PTT} {te : PTE} {vs : List Nat} {Q : Slot → Env → Prop} {ds : List D} {env : Env}
/-- each element gives one or none, and the names stay -/
theorem comp_fn (f : D → Option D) (hl : ds.length ≤ sizeLine)
    (h : ∀ d ∈ ds, ∀ K : Option D → Env → Prop, K (f d) env → g d env fun e1 => tt e1 fun b e2 => if b = true then te e2 fun y e3 => K (some y) (wipeE e3 vs) else K none (wipeE e2 vs))
    (q : Q (.own (.lst (ds.filterMap f))) env) : ∃ I : Nat → List D → Env → Prop, I 0 [] env ∧ compOk g tt te vs Q ds I := by
  refine ⟨fun i acc e => e = env ∧ acc = (ds.take i).filterMap f, ⟨rfl, rfl⟩, ?_⟩
  rintro i acc e ⟨rfl, rfl⟩
  refine ⟨fun d hd => ?_, fun hi => ?_⟩
  · obtain ⟨hi, h2⟩ := List.getElem?_eq_some_iff.mp hd
    have hm : d ∈ ds := h2 ▸ List.getElem_mem hi
    have hlt : ((ds.take i).filterMap f).length < sizeLine := by
      have := List.length_filterMap_le f (ds.take i)
      rw [List.length_take] at this
      omega
    have ht : ds.take (i + 1) = ds.take i ++ [d] := by rw [List.take_succ, hd]; rfl
    refine h d hm (fun o e' => match o with
      | some y => ((ds.take i).filterMap f).length < sizeLine ∧ e' = e ∧ (ds.take i).filterMap f ++ [y] = (ds.take (i + 1)).filterMap f
      | none => e' = e ∧ (ds.take i).filterMap f = (ds.take (i + 1)).filterMap f) ?_
    cases ho : f d with
    | none => exact ⟨rfl, by rw [ht, List.filterMap_append]; simp [ho]⟩
    | some y => exact ⟨hlt, rfl, by rw [ht, List.filterMap_append]; simp [ho]⟩
  · subst hi
    rw [List.take_length]
    exact q
/-- each element gives one, and the names stay -/
theorem comp_map (f : D → D) (hl : ds.length ≤ sizeLine)
    (h : ∀ d ∈ ds, ∀ K : D → Env → Prop, K (f d) env → g d env fun e1 => te e1 fun y e3 => K y (wipeE e3 vs))
    (q : Q (.own (.lst (ds.map f))) env) : ∃ I : Nat → List D → Env → Prop, I 0 [] env ∧ compOk g tYes' te vs Q ds I := by
  refine comp_fn (fun d => some (f d)) hl (fun d hd K k => ?_) (by rw [List.filterMap_eq_map']; exact q)
  simp only [tYes', if_true]
  exact h d hd (fun y e => K (some y) e) k
/-- each element gives one of some, and the names stay -/
theorem comp_rel (P : D → D → Prop) (hl : ds.length ≤ sizeLine)
    (h : ∀ d ∈ ds, ∀ K : D → Env → Prop, (∀ y, P d y → K y env) → g d env fun e1 => te e1 fun y e3 => K y (wipeE e3 vs))
    (q : ∀ ys, ys.length = ds.length → (∀ y ∈ ys, ∃ d ∈ ds, P d y) → Q (.own (.lst ys)) env) : ∃ I : Nat → List D → Env → Prop, I 0 [] env ∧ compOk g tYes' te vs Q ds I := by
  refine ⟨fun i acc e => e = env ∧ acc.length = i ∧ ∀ y ∈ acc, ∃ d ∈ ds, P d y, ⟨rfl, rfl, by simp⟩, ?_⟩
  rintro i acc e ⟨rfl, rfl, ha⟩
  refine ⟨fun d hd => ?_, fun hi => ?_⟩
  · obtain ⟨hi, h2⟩ := List.getElem?_eq_some_iff.mp hd
    have hm : d ∈ ds := h2 ▸ List.getElem_mem hi
    simp only [tYes', if_true]
    refine h d hm (fun y e' => acc.length < sizeLine ∧ e' = e ∧ (acc ++ [y]).length = acc.length + 1 ∧ ∀ z ∈ acc ++ [y], ∃ d ∈ ds, P d z) ?_
    intro y hy
    refine ⟨by omega, rfl, by simp, fun z hz => ?_⟩
    rcases List.mem_append.mp hz with hz | hz
    · exact ha z hz
    · rw [List.mem_singleton] at hz
      subst hz
      exact ⟨d, hm, hy⟩
  · exact q acc hi ha
theorem map_of {α : Type} {f : α → D} {P : D → Prop} : ∀ {ys : List D}, (∀ y ∈ ys, ∃ x, y = f x ∧ P y) → ∃ xs : List α, ys = xs.map f ∧ ∀ x ∈ xs, P (f x)
  | [], _ => ⟨[], rfl, by simp⟩
  | y :: ys, h => by
    obtain ⟨x, rfl, hx⟩ := h y (by simp)
    obtain ⟨xs, e, hxs⟩ := map_of (f := f) (P := P) (ys := ys) (fun z hz => h z (List.mem_cons_of_mem _ hz))
    subst e
    exact ⟨x :: xs, rfl, by simpa using ⟨hx, hxs⟩⟩
end
/-! ### plain data without bools -/
mutual
def D.nb : D → Bool
  | .bl _ => false
  | .tup xs => D.nbs xs
  | .lst xs => D.nbs xs
  | _ => true
def D.nbs : List D → Bool
  | [] => true
  | x :: xs => D.nb x && D.nbs xs
end
mutual
theorem D.nm_nb : ∀ x y : D, D.nb x = true → D.nb y = true → D.nm x y = true
  | .bl _, _, h, _ => by simp [D.nb] at h
  | .non, y, _, h => by cases y <;> simp [D.nm]
  | .int _, y, _, h => by cases y <;> simp [D.nm, D.nb] at h ⊢
  | .str _, y, _, h => by cases y <;> simp [D.nm]
  | .cls _, y, _, h => by cases y <;> simp [D.nm]
  | .ty _, y, _, h => by cases y <;> simp [D.nm]
  | .dct _ _, y, _, h => by cases y <;> simp [D.nm]
  | .obj _ _ _, y, _, h => by cases y <;> simp [D.nm]
  | .hdl _ _, y, _, h => by cases y <;> simp [D.nm]
  | .exc _ _ _ _, y, _, h => by cases y <;> simp [D.nm]
  | .scr _, y, _, h => by cases y <;> simp [D.nm]
  | .tup xs, y, h, h2 => by
    cases y with
    | tup ys => simp only [D.nm]; exact D.nms_nb xs ys (by simpa [D.nb] using h) (by simpa [D.nb] using h2)
    | _ => simp [D.nm]
  | .lst xs, y, h, h2 => by
    cases y with
    | lst ys => simp only [D.nm]; exact D.nms_nb xs ys (by simpa [D.nb] using h) (by simpa [D.nb] using h2)
    | _ => simp [D.nm]
theorem D.nms_nb : ∀ xs ys : List D, D.nbs xs = true → D.nbs ys = true → D.nms xs ys = true
  | [], _, _, _ => by simp [D.nms]
  | _ :: _, [], _, _ => by simp [D.nms]
  | x :: xs, y :: ys, h, h2 => by
    simp only [D.nbs, Bool.and_eq_true] at h h2
    simp only [D.nms, Bool.and_eq_true]
    exact ⟨D.nm_nb x y h.1 h2.1, D.nms_nb xs ys h.2 h2.2⟩
end
def D.ok (n : Nat) (d : D) : Prop := D.pl n d = true ∧ D.nb d = true
def D.oks (n : Nat) (ds : List D) : Prop := ∀ d ∈ ds, D.ok n d
theorem pls_all {n : Nat} : ∀ {ds : List D}, D.pls n ds = true ↔ ∀ d ∈ ds, D.pl n d = true
  | [] => by simp [D.pls]
  | d :: ds => by simp [D.pls, pls_all]
theorem nbs_all : ∀ {ds : List D}, D.nbs ds = true ↔ ∀ d ∈ ds, D.nb d = true
  | [] => by simp [D.nbs]
  | d :: ds => by simp [D.nbs, nbs_all]
theorem ok_non {n : Nat} : D.ok n .non ↔ True := by cases n <;> simp [D.ok, D.pl, D.nb]
theorem ok_int {n : Nat} {i : Int} : D.ok n (.int i) ↔ True := by cases n <;> simp [D.ok, D.pl, D.nb]
theorem ok_str {n : Nat} {x : Str} : D.ok n (.str x) ↔ okStr x = true := by cases n <;> simp [D.ok, D.pl, D.nb]
theorem ok_tup {n : Nat} {ds : List D} : D.ok (n + 1) (.tup ds) ↔ ∀ d ∈ ds, D.ok n d := by
  simp only [D.ok, D.pl, D.nb, pls_all, nbs_all]
  exact ⟨fun h d hd => ⟨h.1 d hd, h.2 d hd⟩, fun h => ⟨fun d hd => (h d hd).1, fun d hd => (h d hd).2⟩⟩
theorem ok_lst {n : Nat} {ds : List D} : D.ok (n + 1) (.lst ds) ↔ ∀ d ∈ ds, D.ok n d := by
  simp only [D.ok, D.pl, D.nb, pls_all, nbs_all]
  exact ⟨fun h d hd => ⟨h.1 d hd, h.2 d hd⟩, fun h => ⟨fun d hd => (h d hd).1, fun d hd => (h d hd).2⟩⟩
theorem eqOk_ok {x y : D} (h1 : D.ok 60 x) (h2 : D.ok 60 y) : eqOk x y = true := by
  unfold eqOk
  rw [h1.1, h2.1, D.nm_nb x y h1.2 h2.2]
  simp
theorem inOk_ok {x : D} {ds : List D} (h1 : D.ok 59 x) (h2 : ∀ d ∈ ds, D.ok 59 d) : inOk x ds = true := by
  unfold inOk
  rw [h1.1, pls_all.mpr fun d hd => (h2 d hd).1]
  simp only [Bool.true_and, List.all_eq_true]
  exact fun d hd => D.nm_nb d x (h2 d hd).2 h1.2
theorem okStr_of {x : Str} (h : ∀ c ∈ TL.tl x, c < 128) : okStr x = true := by
  unfold okStr
  rw [← Array.all_toList, List.all_eq_true]
  intro c hc
  have := h c hc
  simp
  omega
theorem repOk_of {d : D} (h1 : D.pl 60 d = true) (h2 : D.rok d = true) (h3 : D.rc d ≤ 16777216) : repOk d := ⟨h1, h2, by have := big; omega⟩
/-! ### places -/
theorem rd_at0 {α : Type} {x : α} {xs : List α} : atI (x :: xs) 0 = some x := by
  unfold atI ixN
  rw [if_pos (by omega), if_pos (by simp only [List.length_cons]; omega)]
  rfl
theorem rd_at1 {α : Type} {x y : α} {xs : List α} : atI (x :: y :: xs) 1 = some y := by
  unfold atI ixN
  rw [if_pos (by omega), if_pos (by simp only [List.length_cons]; omega)]
  rfl
theorem rd_at2 {α : Type} {x y z : α} {xs : List α} : atI (x :: y :: z :: xs) 2 = some z := by
  unfold atI ixN
  rw [if_pos (by omega), if_pos (by simp only [List.length_cons]; omega)]
  rfl
theorem rd_at3 {α : Type} {x y z u : α} {xs : List α} : atI (x :: y :: z :: u :: xs) 3 = some u := by
  unfold atI ixN
  rw [if_pos (by omega), if_pos (by simp only [List.length_cons]; omega)]
  rfl
theorem rd_atL {α : Type} {x : α} {xs : List α} : atI (xs ++ [x]) (-1) = some x := by
  unfold atI ixN
  rw [if_neg (by omega), if_pos (by simp only [List.length_append, List.length_cons, List.length_nil]; omega)]
  have e : (-1 + ((xs ++ [x]).length : Int)).toNat = xs.length := by simp only [List.length_append, List.length_cons, List.length_nil]; omega
  simp only [e]
  simp
theorem rd_ixL {n : Nat} : ixN (n + 1) (-1) = some n := by
  unfold ixN
  rw [if_neg (by omega), if_pos (by omega)]
  congr 1
  omega
theorem cut_pre {α : Type} {xs : List α} {n : Nat} : cutD xs none (some (n : Int)) = xs.take n := by
  unfold cutD
  rw [HT.sIx_nat]
  simp only [HT.sIx, Nat.sub_zero, List.drop_zero]
  rw [List.take_eq_take_iff]
  omega
theorem cut_suf {α : Type} {xs : List α} {n : Nat} : cutD xs (some (n : Int)) none = xs.drop n := by
  unfold cutD
  rw [HT.sIx_nat]
  simp only [HT.sIx]
  by_cases h : n ≤ xs.length
  · rw [Nat.min_eq_left h, List.take_of_length_le (by simp)]
  · rw [Nat.min_eq_right (by omega), Nat.sub_self, List.take_zero, List.drop_eq_nil_of_le (by omega)]
theorem cut_le {α : Type} {xs : List α} {lo hi : Option Int} : (cutD xs lo hi).length ≤ xs.length := by
  unfold cutD
  rw [List.length_take, List.length_drop]
  omega
theorem cut_mem {α : Type} {xs : List α} {lo hi : Option Int} {x : α} (h : x ∈ cutD xs lo hi) : x ∈ xs := List.mem_of_mem_drop (List.mem_of_mem_take h)
theorem at_of {α : Type} {xs : List α} {f : α → D} {n : Nat} {c : α} (h : xs[n]? = some c) : atI (xs.map f) (n : Int) = some (f c) := atI_nat (by rw [List.getElem?_map, h]; rfl)
theorem joinL0 : ∀ ps : List (List Nat), TL.joinL [] ps = ps.flatten
  | [] => rfl
  | [p] => by simp [TL.joinL]
  | p :: q :: r => by
    have := joinL0 (q :: r)
    simp only [TL.joinL, List.nil_append, this, List.flatten_cons]
theorem tl_join0 (ls : List Str) : TL.tl (Txt.join "" ls) = (ls.map TL.tl).flatten := by
  rw [TL.join_eq, TL.tl_join]
  exact joinL0 _
theorem join0_len (ls : List Str) : (Txt.join "" ls).length = (ls.map (·.length)).sum := by
  rw [len_cps, show (Txt.join "" ls).cps.toList = _ from tl_join0 ls, List.length_flatten, List.map_map]
  congr 1
theorem sum_len {ls : List Str} {m : Nat} (h : ∀ l ∈ ls, l.length ≤ m) : (ls.map (·.length)).sum ≤ ls.length * m := by
  induction ls with
  | nil => simp
  | cons x xs ih =>
    have h1 := h x (by simp)
    have h2 := ih fun l hl => h l (by simp [hl])
    simp only [List.map_cons, List.sum_cons, List.length_cons, Nat.succ_mul]
    omega
theorem join0_ok {ls : List Str} {m : Nat} (h : ∀ l ∈ ls, l.length ≤ m) (hm : ls.length * m ≤ 16777216) : joinOk "" ls := by
  unfold joinOk
  have := sum_len h
  rw [show (Str.ofString "").length = 0 from by decide +kernel]
  omega
theorem pth_str {p : List Str} : TL.tl (Str.ofString "") = [] := by decide +kernel
theorem sgn_len (t : Str) : (signsD t).length = t.length := by rw [signsD, List.length_map, len_cps]
theorem str_empty {x : Str} : x = Str.ofString "" ↔ x.length = 0 := by
  constructor
  · rintro rfl; decide +kernel
  · intro h
    apply TL.ext_tl
    rw [pth_str (p := [])]
    rw [len_cps] at h
    exact List.eq_nil_of_length_eq_zero h
theorem app_len (x y : Str) : (x ++ y).length = x.length + y.length := Str.length_append x y
theorem at_in {v : Int} {xs : List D} {Q : D → Prop} (h0 : 0 ≤ v) (h1 : v < xs.length) (h : ∀ d ∈ xs, Q d) : ∃ d, atI xs v = some d ∧ Q d := by
  have hv : v.toNat < xs.length := by omega
  refine ⟨xs[v.toNat], ?_, h _ (List.getElem_mem hv)⟩
  have e : ((v.toNat : Nat) : Int) = v := by omega
  have q := atI_nat (List.getElem?_eq_getElem hv)
  rw [e] at q
  exact q
theorem rd_pRepr {d : D} {Q : D → Prop} : pRepr d Q = (repOk d ∧ Q (.str (reprD d))) := rfl
/-! ### pairs of ints by order -/
section
variable {a b c d : Int} {Q : D → Prop}
theorem cmp_ii : cmpOk (.tup [.int a, .int b]) (.tup [.int c, .int d]) = true := rfl
theorem ltD_ii : D.ltD (.tup [.int a, .int b]) (.tup [.int c, .int d]) = decide (a < c ∨ (a = c ∧ b < d)) := PySem.W.dataLt_ii a b c d
theorem rd_pGt2 : pGt (.tup [.int a, .int b]) (.tup [.int c, .int d]) Q ↔ Q (.bl (decide (c < a ∨ (c = a ∧ d < b)))) := by
  show (cmpOk _ _ = true ∧ Q (.bl (D.ltD _ _))) ↔ _
  rw [ltD_ii]
  exact ⟨fun h => h.2, fun h => ⟨cmp_ii, h⟩⟩
theorem rd_pLt2 : pLt (.tup [.int a, .int b]) (.tup [.int c, .int d]) Q ↔ Q (.bl (decide (a < c ∨ (a = c ∧ b < d)))) := by
  show (cmpOk _ _ = true ∧ Q (.bl (D.ltD _ _))) ↔ _
  rw [ltD_ii]
  exact ⟨fun h => h.2, fun h => ⟨cmp_ii, h⟩⟩
end
mutual
theorem D.pl_up : ∀ {n m : Nat} {d : D}, n ≤ m → D.pl n d = true → D.pl m d = true
  | _, m, .non, _, _ => by cases m <;> rfl
  | _, m, .bl _, _, _ => by cases m <;> rfl
  | _, m, .int _, _, _ => by cases m <;> rfl
  | n, m, .str x, _, h => by
    have h' : okStr x = true := by cases n <;> simpa only [D.pl] using h
    cases m <;> simpa only [D.pl] using h'
  | n + 1, m + 1, .tup xs, hm, h => by
    simp only [D.pl] at h ⊢
    exact D.pls_up (by omega) h
  | n + 1, m + 1, .lst xs, hm, h => by
    simp only [D.pl] at h ⊢
    exact D.pls_up (by omega) h
  | n + 1, 0, .tup xs, hm, h => by omega
  | n + 1, 0, .lst xs, hm, h => by omega
  | 0, _, .tup _, _, h => by simp [D.pl] at h
  | 0, _, .lst _, _, h => by simp [D.pl] at h
  | n, _, .dct _ _, _, h => by cases n <;> simp [D.pl] at h
  | n, _, .obj _ _ _, _, h => by cases n <;> simp [D.pl] at h
  | n, _, .hdl _ _, _, h => by cases n <;> simp [D.pl] at h
  | n, _, .cls _, _, h => by cases n <;> simp [D.pl] at h
  | n, _, .ty _, _, h => by cases n <;> simp [D.pl] at h
  | n, _, .exc _ _ _ _, _, h => by cases n <;> simp [D.pl] at h
  | n, _, .scr _, _, h => by cases n <;> simp [D.pl] at h
theorem D.pls_up : ∀ {n m : Nat} {ds : List D}, n ≤ m → D.pls n ds = true → D.pls m ds = true
  | _, _, [], _, _ => rfl
  | n, m, d :: ds, hm, h => by
    simp only [D.pls, Bool.and_eq_true] at h ⊢
    exact ⟨D.pl_up hm h.1, D.pls_up hm h.2⟩
end
end Pu

set_option Elab.async false
set_option linter.all false
set_option maxRecDepth 100000
namespace Pu
open PySem PySem.Spec L2
/-! ### texts as lists of signs -/
theorem cutS_nat {z : Str} {i j : Nat} (hij : i ≤ j) : cutS z (some (i : Int)) (some (j : Int)) = SX.S ((z.cps.toList.drop i).take (j - i)) := by
  unfold cutS
  rw [HT.sIx_nat z.length z.length j, HT.sIx_nat z.length 0 i]
  have hl := len_cps z
  refine congrArg SX.S ?_
  by_cases hi : i ≤ z.length
  · rw [Nat.min_eq_left hi]
    by_cases hj : j ≤ z.length
    · rw [Nat.min_eq_left hj]
    · rw [Nat.min_eq_right (by omega), List.take_of_length_le (by rw [List.length_drop]; omega), List.take_of_length_le (by rw [List.length_drop]; omega)]
  · rw [Nat.min_eq_right (by omega), Nat.min_eq_right (by omega), Nat.sub_self, List.take_zero, List.drop_eq_nil_of_le (by omega), List.take_nil]
theorem cutS_to {z : Str} {j : Nat} : cutS z none (some (j : Int)) = SX.S (z.cps.toList.take j) := by
  have := cutS_nat (z := z) (i := 0) (j := j) (by omega)
  rw [List.drop_zero, Nat.sub_zero] at this
  rw [← this]
  unfold cutS
  rw [HT.sIx_nat z.length 0 0, Nat.zero_min]
  rfl
theorem cutS_from {z : Str} {i : Nat} : cutS z (some (i : Int)) none = SX.S (z.cps.toList.drop i) := by
  have := cutS_nat (z := z) (i := i) (j := max i z.length) (by omega)
  have hl := len_cps z
  rw [List.take_of_length_le (by rw [List.length_drop]; omega)] at this
  rw [← this]
  unfold cutS
  rw [HT.sIx_nat z.length z.length, Nat.min_eq_right (by omega)]
  rfl
theorem S_app (a b : List Nat) : SX.S a ++ SX.S b = SX.S (a ++ b) := SX.S_cat a b
theorem S_cps (a : List Nat) : (SX.S a).cps.toList = a := rfl
theorem S_inj {a b : List Nat} : SX.S a = SX.S b ↔ a = b := ⟨fun h => congrArg TL.tl h, fun h => by rw [h]⟩
theorem S_of (x : Str) : x = SX.S x.cps.toList := TL.ext_tl rfl
theorem S_one (c : Nat) : (⟨#[c]⟩ : Str) = SX.S [c] := rfl
theorem str_num (n : Nat) : Str.ofString (toString (n : Int)) = SX.S (TL.numL n) := SX.num_S n
theorem nat_log {n : Nat} (h : n < 2 ^ 1000) : (n : Int).natAbs.log2 < 1920 := by
  rw [Int.natAbs_natCast]
  by_cases h0 : n = 0
  · subst h0; decide
  · have := (Nat.log2_lt h0).mpr h
    omega
theorem sgn_get {z : Str} {i : Nat} {d : D} (h : (signsD z)[i]? = some d) : ∃ c, z.cps.toList[i]? = some c ∧ d = .str ⟨#[c]⟩ ∧ i < z.cps.toList.length := by
  unfold signsD at h
  rw [List.getElem?_map] at h
  cases q : z.cps.toList[i]? with
  | none => rw [q] at h; cases h
  | some c =>
    rw [q] at h
    exact ⟨c, rfl, (Option.some.inj h).symm, (List.getElem?_eq_some_iff.mp q).1⟩
theorem take_next {α : Type} {l : List α} {i : Nat} {c : α} (h : l[i]? = some c) : l.take (i + 1) = l.take i ++ [c] := by rw [List.take_succ, h]; rfl
/-! ### digits -/
theorem val_snoc (r : List Nat) (c : Nat) : NumText.digitsVal (r ++ [c]) = NumText.digitsVal r * 10 + (c - 48) := by
  unfold NumText.digitsVal
  rw [List.foldl_append]
  rfl
theorem numL_back : ∀ (n : Nat) (l : List Nat), l.length = n → (∀ c ∈ l, 48 ≤ c ∧ c ≤ 57) → l ≠ [] → (l = [48] ∨ l.head? ≠ some 48) → TL.numL (NumText.digitsVal l) = l
  | 0, l, hn, _, hne, _ => absurd (List.eq_nil_of_length_eq_zero hn) hne
  | n + 1, l, hn, hd, hne, hh => by
    obtain ⟨r, c, rfl⟩ : ∃ r c, l = r ++ [c] := ⟨l.dropLast, l.getLast hne, (List.dropLast_concat_getLast hne).symm⟩
    have hc := hd c (by simp)
    rw [val_snoc]
    by_cases hr : r = []
    · subst hr
      rw [show NumText.digitsVal [] = 0 from rfl, TL.numL_lt (by omega)]
      simp only [List.nil_append, List.cons.injEq, and_true]
      omega
    · have h1 : r.head? ≠ some 48 := by
        rcases hh with hh | hh
        · have := congrArg List.length hh
          simp at this
          exact absurd this hr
        · cases r with
          | nil => exact absurd rfl hr
          | cons x r => simpa using hh
      have ih := numL_back n r (by simp at hn; omega) (fun c hc => hd c (by simp [hc])) hr (.inr h1)
      have hv : 1 ≤ NumText.digitsVal r := by
        rcases Nat.eq_zero_or_pos (NumText.digitsVal r) with z | z
        · rw [z, TL.numL_lt (by omega)] at ih
          rw [← ih] at h1
          exact absurd rfl h1
        · exact z
      rw [TL.numL_step (by omega), show (NumText.digitsVal r * 10 + (c - 48)) / 10 = NumText.digitsVal r by omega, ih, show 48 + (NumText.digitsVal r * 10 + (c - 48)) % 10 = c by omega]
/-! ### splitting at one sign -/
theorem spl1 (s : Nat) (l acc : List Nat) : (s ∉ l ∧ TL.spl [s] 0 acc l = [acc ++ l]) ∨ ∃ p q, l = p ++ s :: q ∧ s ∉ p ∧ TL.spl [s] 0 acc l = (acc ++ p) :: TL.spl [s] 0 [] q := by
  by_cases h : s ∈ l
  · obtain ⟨p, q, rfl, hp⟩ := List.eq_append_cons_of_mem h
    exact .inr ⟨p, q, rfl, hp, TL.spl_part1 (S := []) hp⟩
  · exact .inl ⟨h, TL.spl_last1 h⟩
theorem spl1_two {s : Nat} {l : List Nat} (h : (TL.spl [s] 0 [] l).length = 2) : ∃ p q, l = p ++ s :: q ∧ s ∉ p ∧ s ∉ q ∧ TL.spl [s] 0 [] l = [p, q] := by
  rcases spl1 s l [] with ⟨_, e⟩ | ⟨p, q, rfl, hp, e⟩
  · rw [e] at h
    cases h
  · rcases spl1 s q [] with ⟨hq, e2⟩ | ⟨p2, q2, rfl, _, e2⟩
    · exact ⟨p, q, rfl, hp, hq, by rw [e, e2]; rfl⟩
    · rcases spl1 s q2 [] with ⟨_, e3⟩ | ⟨_, _, _, _, e3⟩
      · rw [e, e2, e3] at h
        cases h
      · rw [e, e2, e3] at h
        simp at h
theorem first_eq {s : Nat} : ∀ {x y a b : List Nat}, s ∉ x → s ∉ y → x ++ s :: a = y ++ s :: b → x = y ∧ a = b
  | [], [], a, b, _, _, e => ⟨rfl, by simpa using e⟩
  | [], c :: y, a, b, _, hy, e => by simp at e; exact absurd (by simp [← e.1]) hy
  | c :: x, [], a, b, hx, _, e => by simp at e; exact absurd (by simp [e.1]) hx
  | c :: x, d :: y, a, b, hx, hy, e => by
    simp only [List.cons_append, List.cons.injEq] at e
    obtain ⟨h1, h2⟩ := first_eq (fun z => hx (by simp [z])) (fun z => hy (by simp [z])) e.2
    exact ⟨by rw [e.1, h1], h2⟩
theorem int_digits {l : List Nat} (h : ∀ c ∈ l, 48 ≤ c ∧ c ≤ 57) (h1 : l ≠ []) (h2 : l.length ≤ 640) : PySem.intText? (SX.S l) = some ((NumText.digitsVal l : Nat) : Int) :=
  PySem.intText_digits (x := SX.S l) h h1 (by rw [SX.S_len]; omega)
/-- all of a list, kept together -/
def AllIn (xs : List D) (P : D → Prop) : Prop := ∀ d ∈ xs, P d
end Pu

set_option Elab.async false
set_option linter.all false
set_option maxRecDepth 100000
namespace Pu
open PySem PySem.Spec PyProof.Rows L2
section
variable {X : Cx}
def signsV (x : PySem.Str) : List V := x.cps.toList.map fun c => V.str ⟨#[c]⟩
theorem vals_of_get : ∀ (xs : List V) (us : List Value), xs.length = us.length → (∀ (j : Nat) (x : V) (u : Value), xs[j]? = some x → us[j]? = some u → L2.RelV x u) → Vals xs us
  | [], [], _, _ => .nil
  | [], _ :: _, h, _ => by simp at h
  | _ :: _, [], h, _ => by simp at h
  | x :: xs, u :: us, h, q => .cons (q 0 x u rfl rfl) (vals_of_get xs us (by simpa using h) fun j y w hy hw => q (j + 1) y w (by simpa using hy) (by simpa using hw))
theorem call_list_s (hc : X.calm = true) : CallR X (.type "list") (fun xs H Q => ∃ x, xs = [.str x] ∧ x.length ≤ sizeLine ∧ ∀ l, H l = none → Q (.ref l) (upd H l (.lst (signsV x)))) := by
  intro pins s σ H xs us Q I r h
  obtain ⟨x, rfl, hz, q⟩ := h
  obtain ⟨u, rfl, t, rfl⟩ := vals1 r
  refine call_list_str (I.ok.hd hc) x t (fun h' tk acc' c' kp e it => ?_) hz
  have hv : Vals (signsV x) acc'.toList := by
    obtain ⟨h1, h2⟩ := it
    refine vals_of_get _ _ (by simp [signsV, h1]) fun j v u hj hu => ?_
    obtain ⟨c, w, hx, rfl⟩ := h2 j u (by simpa using hu)
    have hx' : x.cps.toList[j]? = some c := by simpa using hx
    unfold signsV at hj
    rw [List.getElem?_map, hx'] at hj
    cases hj
    exact ⟨w, rfl⟩
  have hl : (signsV x).length ≤ sizeLine := by
    unfold signsV
    rw [List.length_map, ← len_cps]
    exact hz
  exact ⟨.ref s.heap.objs.size, _, I.laid (t' := tk) kp (Nat.le_refl _) (show ObjOk X.prog X.w _ h' _ (.lst (signsV x)) from ⟨hl, acc'.toList, c', hv, e⟩), rfl, q _ (I.hok.fresh (Nat.le_refl _))⟩
def rListU (K : PySem.W.Frag) : List V → Hp → VK → Prop := fun xs H Q => (∃ p ys, xs = [.ref p] ∧ (SqL K H p ys ∨ SqT K H p ys) ∧ ∀ l, H l = none → Q (.ref l) (upd H l (.lst ys))) ∨ ∃ x, xs = [.str x] ∧ x.length ≤ sizeLine ∧ ∀ l, H l = none → Q (.ref l) (upd H l (.lst (signsV x)))
theorem call_listU (hc : X.calm = true) : CallR X (.type "list") (rListU X.K) := Pu.CallR.or call_list_of (call_list_s hc)
end
section
variable {W : Wd} {E : XK} {Xc : XP} {Z : Addr → Prop} {σ0 : L2.St} {H G H' G' : Hp} {σ : L2.St} {env : Env} {φ : Nat → Hp}
def pListU : D → (D → Prop) → Prop
  | .lst xs, Q => Q (.lst xs)
  | .tup xs, Q => Q (.lst xs)
  | .scr ns, Q => Q (.lst (ns.map D.int))
  | .str x, Q => x.length ≤ sizeLine ∧ Q (.lst (signsD x))
  | _, _ => False
theorem frs_signs : ∀ l : List Nat, FRs W G (l.map fun c => V.str ⟨#[c]⟩) (l.map fun c => D.str ⟨#[c]⟩)
  | [] => .nil
  | _ :: l => .cons (.str _) (frs_signs l)
theorem pc_listU : PurC W (rListU W.K) (p1 pListU) := pc_1 <| by
  intro G H x d Q Q' e f k h
  have fin : ∀ vs ds, FRs W G vs ds → Q' (.lst ds) → ∀ l, H l = none → Q (.ref l) (upd H l (.lst vs)) := fun vs ds t h l hl => by
    have g := Grow.new (o := .lst vs) e hl
    exact k _ _ _ _ g (.lst upd_same (t.mono g.g)) h
  cases f with
  | lst hs t => exact .inl ⟨_, _, rfl, .inl (SqL.of (e _ _ hs)), fin _ _ t h⟩
  | tup hs t => exact .inl ⟨_, _, rfl, .inr (sqt_mono e hs), fin _ _ t h⟩
  | scr hs => exact .inl ⟨_, _, rfl, .inl (e.seq hs), fin _ _ (frs_ints _) h⟩
  | str y => exact .inr ⟨y, rfl, h.1, fin _ _ (frs_signs _) h.2⟩
  | _ => exact h.elim
/-- text.index(sign) -/
def pSindex : D → D → (D → Prop) → Prop
  | .str a, .str b, Q => ∃ i rest, Builtin.Str.occurrences a b 0 a.length 1 = i :: rest ∧ Q (.int (i : Nat))
  | _, _, _ => False
theorem pr_sindex : PurR2 W (fun x y => (fun (x : V) (xs : List V) (H : Hp) (Q : VK) => ∃ a b i rest, x = .str a ∧ xs = [.str b] ∧ Builtin.Str.occurrences a b 0 a.length 1 = i :: rest ∧ Q (.int (i : Nat)) H) x [y]) pSindex := by
  intro G H x y dx dy Q Q' e f1 f2 k h
  cases f1 <;> first | (exact h.elim) | skip
  cases f2 <;> first | (exact h.elim) | skip
  rename_i a b
  obtain ⟨i, rest, h1, q⟩ := h
  exact ⟨a, b, i, rest, rfl, rfl, h1, k _ _ G H (Grow.refl e) (.int _) q⟩
theorem rd_pListU1 {xs : List D} {Q : D → Prop} : pListU (.lst xs) Q = Q (.lst xs) := rfl
theorem rd_pListU2 {xs : List D} {Q : D → Prop} : pListU (.tup xs) Q = Q (.lst xs) := rfl
theorem rd_pListU3 {ns : List Int} {Q : D → Prop} : pListU (.scr ns) Q = Q (.lst (ns.map D.int)) := rfl
theorem rd_pListU4 {x : PySem.Str} {Q : D → Prop} : pListU (.str x) Q = (x.length ≤ sizeLine ∧ Q (.lst (signsD x))) := rfl
theorem rd_pSindex {a b : PySem.Str} {Q : D → Prop} : pSindex (.str a) (.str b) Q = ∃ i rest, Builtin.Str.occurrences a b 0 a.length 1 = i :: rest ∧ Q (.int (i : Nat)) := rfl
end
end Pu

set_option Elab.async false
set_option linter.all false
set_option maxRecDepth 100000
namespace Pu
open PySem PySem.Spec L2
/-! ### the nodes of a thing of one's own -/
def T.kids : T → List T
  | .leaf _ => []
  | .lst ts => ts
  | .dct _ _ ts => ts
  | .obj _ _ ts => ts
def T.wk : T → List T → T
  | .leaf d, _ => .leaf d
  | .lst _, ts => .lst ts
  | .dct l ks _, ts => .dct l ks ts
  | .obj C ns _, ts => .obj C ns ts
def T.at : T → List Nat → Option T
  | t, [] => some t
  | t, n :: p => match t.kids[n]? with
    | some u => T.at u p
    | none => none
def T.put : T → List Nat → T → T
  | _, [], u => u
  | t, n :: p, u => match t.kids[n]? with
    | some k => t.wk (t.kids.set n (T.put k p u))
    | none => t
theorem T.at_snoc : ∀ {p : List Nat} {t u : T} {n : Nat}, t.at p = some u → t.at (p ++ [n]) = u.kids[n]?
  | [], t, u, n, h => by
    cases h
    simp only [List.nil_append, T.at]
    cases t.kids[n]? <;> rfl
  | m :: p, t, u, n, h => by
    simp only [List.cons_append, T.at] at h ⊢
    cases q : t.kids[m]? with
    | none => rw [q] at h; cases h
    | some k => rw [q] at h; exact T.at_snoc h
theorem T.put_snoc : ∀ {p : List Nat} {t u k : T} {n : Nat} {x : T}, t.at p = some u → u.kids[n]? = some k → t.put (p ++ [n]) x = t.put p (u.wk (u.kids.set n x))
  | [], t, u, k, n, x, h, hk => by
    cases h
    simp only [List.nil_append, T.put, hk]
  | m :: p, t, u, k, n, x, h, hk => by
    simp only [List.cons_append, T.at, T.put] at h ⊢
    cases q : t.kids[m]? with
    | none => simp [q] at h
    | some y => rw [q] at h; simp only [T.put_snoc h hk]
/-! ### footprints: a part exchanged -/
def mns (F F1 : Hp) : Hp := fun b => match F1 b with
  | some _ => none
  | none => F b
def sw (F F1 F2 : Hp) : Hp := un F2 (mns F F1)
theorem mns_same {F F1 : Hp} : Same (mns F F1) F := fun b o e => by
  unfold mns at e
  split at e
  · cases e
  · exact e
theorem sw_self {F F2 : Hp} : sw F F F2 = F2 := by
  funext b
  unfold sw un mns
  cases h : F2 b with
  | some o => rfl
  | none => cases h2 : F b <;> first | rfl | simp_all
theorem sw_cases {F F1 F2 : Hp} {b : Addr} {o : HO} (h : sw F F1 F2 b = some o) : F2 b = some o ∨ (F1 b = none ∧ F b = some o) := by
  rcases un_cases h with h | ⟨_, h⟩
  · exact .inl h
  · unfold mns at h
    split at h
    · cases h
    · exact .inr ⟨by assumption, h⟩
section
variable {W : Wd} {G : Hp}
/-- the n-th of the kids -/
theorem TRs.kid : ∀ {F : Hp} {vs : List V} {ts : List T} {n : Nat} {u : T}, TRs W G F vs ts → ts[n]? = some u →
    ∃ v1 F1, vs[n]? = some v1 ∧ TR W G F1 v1 u ∧ Same F1 F ∧ ∀ G' F2 u2, Same G G' → TR W G' F2 v1 u2 → Dis F2 (mns F F1) → TRs W G' (sw F F1 F2) vs (ts.set n u2)
  | _, _, _, _, _, .nil, h => by simp at h
  | _, _, _, 0, u, @TRs.cons _ _ A B v vs t ts h1 h2 d, h => by
    simp at h
    subst h
    refine ⟨v, A, rfl, h1, un_l, fun G' F2 u2 g h3 d2 => ?_⟩
    have e : sw (un A B) A F2 = un F2 B := by
      funext b
      unfold sw un mns
      cases q : F2 b with
      | some o => rfl
      | none =>
        simp only
        cases q2 : A b with
        | none => rfl
        | some o =>
          rcases d b with z | z
          · rw [z] at q2; cases q2
          · rw [z]
    rw [e, List.set_cons_zero]
    refine .cons h3 (h2.mono g) fun b => ?_
    rcases d2 b with z | z
    · exact .inl z
    · refine .inr ?_
      unfold mns at z
      cases q2 : A b with
      | none => rw [q2] at z; simp only at z; unfold un at z; rw [q2] at z; exact z
      | some o => exact (d b).resolve_left (ne_none_of q2)
  | _, _, _, n + 1, u, @TRs.cons _ _ A B v vs t ts h1 h2 d, h => by
    obtain ⟨v1, F1, e1, e2, e3, e4⟩ := TRs.kid (n := n) (u := u) h2 (by simpa using h)
    refine ⟨v1, F1, by simpa using e1, e2, e3.trans (un_r d), fun G' F2 u2 g h3 d2 => ?_⟩
    have nA : ∀ b o, A b = some o → F1 b = none := fun b o q => by
      cases z : F1 b with
      | none => rfl
      | some w =>
        rcases d b with y | y
        · rw [y] at q; cases q
        · rw [e3 b w z] at y; cases y
    have mA : ∀ b o, A b = some o → mns (un A B) F1 b = some o := fun b o q => by
      unfold mns
      rw [nA b o q]
      exact un_l b o q
    have dA : Dis A F2 := fun b => by
      cases q : A b with
      | none => exact .inl rfl
      | some o =>
        rcases d2 b with z | z
        · exact .inr z
        · rw [mA b o q] at z; cases z
    have e : sw (un A B) F1 F2 = un A (sw B F1 F2) := by
      funext b
      unfold sw un mns
      cases q : F2 b with
      | some o =>
        rcases dA b with z | z
        · rw [z]
        · rw [z] at q; cases q
      | none =>
        simp only
        cases q2 : A b with
        | none => rfl
        | some o => rw [nA b o q2]
    rw [e, List.set_cons_succ]
    refine .cons (h1.mono g) (e4 G' F2 u2 g h3 fun b => ?_) fun b => ?_
    · rcases d2 b with z | z
      · exact .inl z
      · refine .inr ?_
        unfold mns at z ⊢
        cases q : F1 b with
        | some o => rfl
        | none =>
          rw [q] at z
          simp only at z ⊢
          exact (un_none z).2
    · rcases dA b with z | z
      · exact .inl z
      · rcases d b with y | y
        · exact .inl y
        · exact .inr (none_un z (by unfold mns; cases F1 b <;> simp [y]))
theorem sw_del {F F1 F2 : Hp} {a : Addr} (h : F2 a = none) : del (sw F F1 F2) a = sw (del F a) F1 F2 := by
  funext b
  unfold del sw un mns
  by_cases hb : b = a
  · subst hb
    simp only [if_true, h]
    cases F1 b <;> rfl
  · simp only [if_neg hb]
/-- a kid of a node, the node about it -/
theorem TR.kid {F : Hp} {v : V} {t u : T} {n : Nat} (h : TR W G F v t) (hu : t.kids[n]? = some u) :
    ∃ a v1 F1, v = .ref a ∧ TR W G F1 v1 u ∧ Same F1 F ∧ (∀ G' F2 u2, Same G G' → TR W G' F2 v1 u2 → Dis F2 (mns F F1) → TR W G' (sw F F1 F2) v (t.wk (t.kids.set n u2))) ∧
      ((∃ vs ts, t = .lst ts ∧ F a = some (.lst vs) ∧ vs.length = ts.length ∧ vs[n]? = some v1) ∨ (∃ od l ks kv vv ts, t = .dct l ks ts ∧ F a = some (ob a od) ∧ DkO W.P W.w od ks kv vv ∧ FRs W G kv ks ∧ vv[n]? = some v1) ∨
        ∃ C dx fs ns ts, t = .obj C ns ts ∧ F a = some (.ins C dx fs) ∧ ns = fs.map (·.1) ∧ (fs.map (·.2))[n]? = some v1) := by
  have len : ∀ {F : Hp} {vs : List V} {ts : List T}, TRs W G F vs ts → vs.length = ts.length := fun {F vs ts} h => by
    have : ∀ {F : Hp} {vs : List V} {ts : List T}, TRs W G F vs ts → vs.length = ts.length := by
      intro F vs ts h
      induction ts generalizing F vs with
      | nil => cases h; rfl
      | cons t ts ih => cases h with | cons _ h _ => simp [ih h]
    exact this h
  cases h with
  | leaf _ => simp [T.kids] at hu
  | @lst F a vs ts h1 h2 =>
    obtain ⟨v1, F1, e1, e2, e3, e4⟩ := h2.kid hu
    have n1 : F1 a = none := by
      cases q : F1 a with
      | none => rfl
      | some o => have := e3 a o q; rw [del_same] at this; cases this
    refine ⟨a, v1, F1, rfl, e2, e3.trans del_sub, fun G' F2 u2 g h3 d => ?_, .inl ⟨vs, ts, rfl, h1, len h2, e1⟩⟩
    have n2 : F2 a = none := by
      rcases d a with z | z
      · exact z
      · unfold mns at z; rw [n1] at z; rw [h1] at z; cases z
    have d1 : Dis F2 (mns (del F a) F1) := d.subR fun b o q => by
      unfold mns at q ⊢
      cases z : F1 b with
      | some w => rw [z] at q; cases q
      | none => rw [z] at q; exact del_sub b o q
    refine .lst ?_ (by rw [sw_del n2]; exact e4 G' F2 u2 g h3 d1)
    unfold sw un mns; rw [n2, n1]; exact h1
  | @dct F a od l ks kv vv ts h1 hk hf h2 hl =>
    obtain ⟨v1, F1, e1, e2, e3, e4⟩ := h2.kid hu
    have n1 : F1 a = none := by
      cases q : F1 a with
      | none => rfl
      | some o => have := e3 a o q; rw [del_same] at this; cases this
    refine ⟨a, v1, F1, rfl, e2, e3.trans del_sub, fun G' F2 u2 g h3 d => ?_, .inr (.inl ⟨od, l, ks, kv, vv, ts, rfl, h1, hk, hf, e1⟩)⟩
    have n2 : F2 a = none := by
      rcases d a with z | z
      · exact z
      · unfold mns at z; rw [n1] at z; rw [h1] at z; cases z
    have d1 : Dis F2 (mns (del F a) F1) := d.subR fun b o q => by
      unfold mns at q ⊢
      cases z : F1 b with
      | some w => rw [z] at q; cases q
      | none => rw [z] at q; exact del_sub b o q
    refine .dct ?_ hk (hf.mono g) (by rw [sw_del n2]; exact e4 G' F2 u2 g h3 d1) hl
    unfold sw un mns; rw [n2, n1]; exact h1
  | @obj F a C dx fs ns vs ts h1 h1' en ev h2 =>
    obtain ⟨v1, F1, e1, e2, e3, e4⟩ := h2.kid hu
    have n1' : F1 dx = none := by
      cases q : F1 dx with
      | none => rfl
      | some o => have := e3 dx o q; rw [del_same] at this; cases this
    have e3' := e3.trans del_sub
    have n1 : F1 a = none := by
      cases q : F1 a with
      | none => rfl
      | some o => have := e3' a o q; rw [del_same] at this; cases this
    refine ⟨a, v1, F1, rfl, e2, e3'.trans del_sub, fun G' F2 u2 g h3 d => ?_, .inr (.inr ⟨C, dx, fs, ns, ts, rfl, h1, en, by rw [← ev]; exact e1⟩)⟩
    have n2 : F2 a = none := by
      rcases d a with z | z
      · exact z
      · unfold mns at z; rw [n1] at z; rw [h1] at z; cases z
    have n2' : F2 dx = none := by
      rcases d dx with z | z
      · exact z
      · unfold mns at z; rw [n1'] at z; rw [h1'] at z; cases z
    have d1 : Dis F2 (mns (del (del F a) dx) F1) := d.subR fun b o q => by
      unfold mns at q ⊢
      cases z : F1 b with
      | some w => rw [z] at q; cases q
      | none => rw [z] at q; exact del_sub b o (del_sub b o q)
    refine .obj (dx := dx) (fs := fs) ?_ ?_ en ev (by rw [sw_del n2, sw_del n2']; exact e4 G' F2 u2 g h3 d1)
    · unfold sw un mns; rw [n2, n1]; exact h1
    · unfold sw un mns; rw [n2', n1']; exact h1'
/-- the node at p is t, its value v, its part F1 -/
structure Foc (W : Wd) (G F : Hp) (v0 : V) (t0 : T) (p : List Nat) (v : V) (F1 : Hp) (t : T) : Prop where
  nd : t0.at p = some t
  tr : TR W G F1 v t
  sub : Same F1 F
  put : ∀ G' F2 t2, Same G G' → TR W G' F2 v t2 → Dis F2 (mns F F1) → TR W G' (sw F F1 F2) v0 (t0.put p t2)
theorem Foc.root {F : Hp} {v0 : V} {t0 : T} (h : TR W G F v0 t0) : Foc W G F v0 t0 [] v0 F t0 :=
  ⟨rfl, h, Same.refl _, fun G' F2 t2 _ h2 _ => by rw [sw_self]; exact h2⟩
theorem Foc.step {F : Hp} {v0 : V} {t0 : T} {p : List Nat} {v : V} {F1 : Hp} {t u : T} {n : Nat} (f : Foc W G F v0 t0 p v F1 t) {v1 : V} {F3 : Hp} (hu : t.kids[n]? = some u) (h1 : TR W G F3 v1 u) (h2 : Same F3 F1)
    (h3 : ∀ G' F2 u2, Same G G' → TR W G' F2 v1 u2 → Dis F2 (mns F1 F3) → TR W G' (sw F1 F3 F2) v (t.wk (t.kids.set n u2))) : Foc W G F v0 t0 (p ++ [n]) v1 F3 u := by
  refine ⟨(T.at_snoc f.nd).trans hu, h1, h2.trans f.sub, fun G' F2 t2 g q d => ?_⟩
  rw [T.put_snoc f.nd hu]
  have d1 : Dis F2 (mns F1 F3) := d.subR fun b o z => by
    unfold mns at z ⊢
    cases y : F3 b with
    | some w => rw [y] at z; cases z
    | none => rw [y] at z; exact f.sub b o z
  have r := f.put G' (sw F1 F3 F2) _ g (h3 G' F2 t2 g q d1) fun b => ?_
  · have e : sw F F1 (sw F1 F3 F2) = sw F F3 F2 := by
      funext b
      unfold sw un mns
      cases z : F2 b with
      | some o => rfl
      | none =>
        simp only
        cases y : F3 b with
        | some o =>
          simp only
          rw [h2 b o y]
        | none =>
          simp only
          cases x : F1 b with
          | none => rfl
          | some o => simp only; exact (f.sub b o x).symm
    rw [← e]
    exact r
  · cases x : F1 b with
    | some o => exact .inr (by unfold mns; rw [x])
    | none =>
      have y : F3 b = none := by
        cases y : F3 b with
        | none => rfl
        | some o => rw [h2 b o y] at x; cases x
      rcases d b with z | z
      · exact .inl (none_un z (by unfold mns; rw [y]; exact x))
      · refine .inr ?_
        unfold mns at z ⊢
        rw [y] at z
        rw [x]
        exact z
end
end Pu

set_option Elab.async false
set_option linter.all false
set_option maxRecDepth 100000
namespace Pu
open PySem PySem.Spec PyProof.Rows L2
/-! ### keys -/
mutual
theorem nk_depth : ∀ {n : Nat} {d : D}, D.kd n d = true → (D.nk d).depth ≤ n
  | _, .non, _ => by simp [D.nk, NestedKey.depth]
  | _, .int _, _ => by simp [D.nk, NestedKey.depth]
  | _, .str _, _ => by simp [D.nk, NestedKey.depth]
  | n + 1, .tup xs, h => by
    have := nks_depth (n := n) (ds := xs) (by simpa [D.kd] using h)
    simp only [D.nk, NestedKey.depth]
    omega
  | 0, .tup _, h => by simp [D.kd] at h
  | n, .bl _, h => by cases n <;> simp [D.kd] at h
  | n, .lst _, h => by cases n <;> simp [D.kd] at h
  | n, .dct _ _, h => by cases n <;> simp [D.kd] at h
  | n, .obj _ _ _, h => by cases n <;> simp [D.kd] at h
  | n, .hdl _ _, h => by cases n <;> simp [D.kd] at h
  | n, .cls _, h => by cases n <;> simp [D.kd] at h
  | n, .ty _, h => by cases n <;> simp [D.kd] at h
  | n, .exc _ _ _ _, h => by cases n <;> simp [D.kd] at h
  | n, .scr _, h => by cases n <;> simp [D.kd] at h
theorem nks_depth : ∀ {n : Nat} {ds : List D}, D.kds n ds = true → NestedKey.depthAll (D.nks ds) ≤ n
  | _, [], _ => by simp [D.nks, NestedKey.depthAll]
  | n, d :: ds, h => by
    have h' := Bool.and_eq_true_iff.mp (by simpa [D.kds] using h)
    have a := nk_depth h'.1
    have b := nks_depth h'.2
    simp only [D.nks, NestedKey.depthAll]
    omega
end
mutual
theorem nk_inj : ∀ {n m : Nat} {d e : D}, D.kd n d = true → D.kd m e = true → D.nk d = D.nk e → d = e
  | n, m, .non, e, h, h2, q => by cases e <;> first | rfl | (simp [D.nk] at q; done) | (cases m <;> simp [D.kd] at h2)
  | n, m, .int i, e, h, h2, q => by cases e <;> first | (simp [D.nk] at q; subst q; rfl) | (simp [D.nk] at q; done) | (cases m <;> simp [D.kd] at h2)
  | n, m, .str i, e, h, h2, q => by cases e <;> first | (simp [D.nk] at q; subst q; rfl) | (simp [D.nk] at q; done) | (cases m <;> simp [D.kd] at h2)
  | n + 1, m + 1, .tup xs, e, h, h2, q => by
    cases e <;> first | (simp [D.nk] at q; done) | (simp [D.kd] at h2; done) | skip
    rename_i ys
    have := nks_inj (n := n) (m := m) (d := xs) (e := ys) (by simpa [D.kd] using h) (by simpa [D.kd] using h2) (by simpa [D.nk] using q)
    rw [this]
  | n + 1, 0, .tup xs, e, h, h2, q => by cases e <;> first | (simp [D.nk] at q; done) | (simp [D.kd] at h2; done)
  | 0, _, .tup _, _, h, _, _ => by simp [D.kd] at h
  | n, _, .bl _, _, h, _, _ => by cases n <;> simp [D.kd] at h
  | n, _, .lst _, _, h, _, _ => by cases n <;> simp [D.kd] at h
  | n, _, .dct _ _, _, h, _, _ => by cases n <;> simp [D.kd] at h
  | n, _, .obj _ _ _, _, h, _, _ => by cases n <;> simp [D.kd] at h
  | n, _, .hdl _ _, _, h, _, _ => by cases n <;> simp [D.kd] at h
  | n, _, .cls _, _, h, _, _ => by cases n <;> simp [D.kd] at h
  | n, _, .ty _, _, h, _, _ => by cases n <;> simp [D.kd] at h
  | n, _, .exc _ _ _ _, _, h, _, _ => by cases n <;> simp [D.kd] at h
  | n, _, .scr _, _, h, _, _ => by cases n <;> simp [D.kd] at h
theorem nks_inj : ∀ {n m : Nat} {d e : List D}, D.kds n d = true → D.kds m e = true → D.nks d = D.nks e → d = e
  | _, _, [], e, _, _, q => by cases e <;> first | rfl | simp [D.nks] at q
  | _, _, d :: ds, [], _, _, q => by simp [D.nks] at q
  | n, m, d :: ds, e :: es, h, h2, q => by
    have h' := Bool.and_eq_true_iff.mp (by simpa [D.kds] using h)
    have h2' := Bool.and_eq_true_iff.mp (by simpa [D.kds] using h2)
    simp only [D.nks, List.cons.injEq] at q
    rw [nk_inj h'.1 h2'.1 q.1, nks_inj h'.2 h2'.2 q.2]
end
section
variable {P : Program} {w : World} {K : PySem.W.Frag} {H : Hp} {h : Heap}
mutual
theorem nis_of (ok : HOk P w H h) (kin : K.In h) : ∀ {n : Nat} {v : V} {d : D}, FR (wd P w K) H v d → D.kd n d = true → ∀ u, RelV v u → NestedIs h (D.nk d) u
  | _, _, _, .non, _, u, r => by cases (show u = _ from r); simp only [D.nk]; exact .none
  | _, _, _, .int i, _, u, r => by obtain ⟨t, rfl⟩ := r; simp only [D.nk]; exact .int _ _
  | _, _, _, .str i, _, u, r => by obtain ⟨t, rfl⟩ := r; simp only [D.nk]; exact .text _ _
  | n + 1, _, _, @FR.tup _ _ _ _ ds hs t, q, u, r => by
    cases (show u = _ from r)
    simp only [D.nk]
    have q' : D.kds n ds = true := by simpa [D.kd] using q
    rcases hs with hs | ⟨o, its, m, hk, hc, hd, _, hv⟩
    · obtain ⟨_, its, r, o, e1, e2, m, e3⟩ := hs.ok ok
      exact NestedIs.tup (vs := its.toArray) e1 e2 e3 (by simpa using nisAll_of ok kin t q' its r)
    · exact NestedIs.tup (vs := its) (kin _ _ hk) hc hd (nisAll_of ok kin t q' its.toList hv)
  | 0, _, _, .tup _ _, q, _, _ => by simp [D.kd] at q
  | n, _, _, .bl _, q, _, _ => by cases n <;> simp [D.kd] at q
  | n, _, _, .lst _ _, q, _, _ => by cases n <;> simp [D.kd] at q
  | n, _, _, .dct _ _ _ _, q, _, _ => by cases n <;> simp [D.kd] at q
  | n, _, _, .obj _ _ _ _ _, q, _, _ => by cases n <;> simp [D.kd] at q
  | n, _, _, .cls _, q, _, _ => by cases n <;> simp [D.kd] at q
  | n, _, _, .ty _, q, _, _ => by cases n <;> simp [D.kd] at q
  | n, _, _, .exc _ _, q, _, _ => by cases n <;> simp [D.kd] at q
  | n, _, _, .scr _, q, _, _ => by cases n <;> simp [D.kd] at q
theorem nisAll_of (ok : HOk P w H h) (kin : K.In h) : ∀ {n : Nat} {vs : List V} {ds : List D}, FRs (wd P w K) H vs ds → D.kds n ds = true → ∀ us, Vals vs us → NestedAll h (D.nks ds) us
  | _, _, _, .nil, _, us, r => by cases r; simp only [D.nks]; exact .nil
  | n, _, _, .cons f t, q, us, r => by
    have q' := Bool.and_eq_true_iff.mp (by simpa [D.kds] using q)
    cases r with
    | cons r rs =>
      simp only [D.nks]
      exact .cons (nis_of ok kin f q'.1 _ r) (nisAll_of ok kin t q'.2 _ rs)
end
end
/-- a key of a dict -/
def D.isT : D → Bool
  | .tup _ => true
  | _ => false
def D.kk : D → Bool
  | .int _ => true
  | .str _ => true
  | .tup xs => D.kds 7 xs
  | _ => false
theorem tk_kk {d : D} (h : D.tk d = true) : D.kk d = true ∧ D.isT d = true := by
  cases d <;> simp [D.tk, D.kk, D.isT] at h ⊢
  exact h
theorem kk_t {d : D} (h : D.kk d = true) (h2 : D.isT d = true) : ∃ xs, d = .tup xs ∧ D.kds 7 xs = true := by
  cases d <;> simp [D.kk, D.isT] at h h2 ⊢
  exact h
theorem kk_v {d : D} (h : D.kk d = true) (h2 : D.isT d = false) : ∃ k, d = keyD k := by
  cases d <;> simp [D.kk, D.isT] at h h2 ⊢
  · exact ⟨.inl _, rfl⟩
  · exact ⟨.inr _, rfl⟩
theorem keyD_inj {a b : Key} (h : keyD a = keyD b) : a = b := by
  cases a <;> cases b <;> simp [keyD] at h ⊢ <;> exact h
theorem keyD_v {a : Key} : D.isT (keyD a) = false ∧ D.kk (keyD a) = true := by cases a <;> exact ⟨rfl, rfl⟩
theorem fr_key {W : Wd} {G : Hp} {v : V} {k : Key} (f : FR W G v (keyD k)) : v = kV k := by
  cases k <;> (cases f; rfl)
/-- where a key stands -/
def posD : List D → D → Option Nat
  | [], _ => none
  | k' :: ks, k => if k' = k then some 0 else (posD ks k).map (· + 1)
theorem posD_get : ∀ {ks : List D} {k : D} {n : Nat}, posD ks k = some n → ks[n]? = some k
  | [], _, _, h => by simp [posD] at h
  | k' :: ks, k, n, h => by
    unfold posD at h
    split at h
    · rename_i e; cases h; subst e; rfl
    · simp only [Option.map_eq_some_iff] at h
      obtain ⟨m, h1, rfl⟩ := h
      simpa using posD_get h1
theorem posD_none : ∀ {ks : List D} {k : D}, posD ks k = none ↔ k ∉ ks
  | [], _ => by simp [posD]
  | k' :: ks, k => by
    unfold posD
    split
    · rename_i e; subst e; simp
    · rename_i e
      rw [Option.map_eq_none_iff, posD_none, List.mem_cons, not_or]
      exact ⟨fun h => ⟨fun z => e z.symm, h⟩, fun h => h.2⟩
theorem posD_isSome {ks : List D} {k : D} : (posD ks k).isSome = decide (k ∈ ks) := by
  cases h : posD ks k with
  | none => simp [posD_none.mp h]
  | some n => simp [List.mem_of_getElem? (posD_get h)]
theorem nks_len : ∀ ks : List D, (D.nks ks).length = ks.length
  | [] => rfl
  | _ :: ks => by simp [D.nks, nks_len ks]
/-! ### the two sorts of dicts -/
section
variable {P : Program} {w : World} {od : Obj} {ks : List D} {kv vv : List V}
def DkVal (P : Program) (w : World) (od : Obj) (ks : List D) (kv vv : List V) : Prop := ∃ (kvs : List (Key × V)) (es : Array DictEntry) (ep : Nat) (vs : List (Key × Value)),
  (od.ExactDict ∧ od.data = .dict es ep ∧ KeysOf (mixKind P w) es ∧ Pairs (mixKind P w) es.toList vs ∧ (vs.map (·.1)).Nodup) ∧ KV kvs vs ∧ kvs.length ≤ sizeLine ∧ ks = kvs.map (fun p => keyD p.1) ∧ kv = kvs.map (fun p => kV p.1) ∧ vv = kvs.map (·.2)
def DkTup (P : Program) (w : World) (od : Obj) (ks : List D) (kv vv : List V) : Prop := ∃ (xs : List (NestedKey × Addr × V)) (us : List (NestedKey × Addr × Value)) (es : Array DictEntry) (ep : Nat),
  (od.ExactDict ∧ od.data = .dict es ep ∧ es.toList = us.map (entryOfKey (nestedKind P w)) ∧ (us.map (·.1)).Nodup) ∧ Paired (fun p q => p.1 = q.1 ∧ p.2.1 = q.2.1 ∧ RelV p.2.2 q.2.2) xs us ∧ xs.length ≤ sizeLine ∧ xs.map (·.1) = D.nks ks ∧ (∀ k ∈ ks, D.tk k = true) ∧
    kv = xs.map (fun x => V.ref x.2.1) ∧ vv = xs.map (·.2.2)
theorem DkO.sort (h : DkO P w od ks kv vv) : DkVal P w od ks kv vv ∨ DkTup P w od ks kv vv := by
  cases h with
  | val a b c d e f g => exact .inl ⟨_, _, _, _, ⟨a, b, c, d, e⟩, f, g, rfl, rfl, rfl⟩
  | tup a b c d e f g h => exact .inr ⟨_, _, _, _, ⟨a, b, c, d⟩, e, f, g, h, rfl, rfl⟩
theorem DkVal.dk (h : DkVal P w od ks kv vv) : DkO P w od ks kv vv := by
  obtain ⟨_, _, _, _, ⟨a, b, c, d, e⟩, f, g, rfl, rfl, rfl⟩ := h
  exact .val a b c d e f g
theorem DkTup.dk (h : DkTup P w od ks kv vv) : DkO P w od ks kv vv := by
  obtain ⟨_, _, _, _, ⟨a, b, c, d⟩, e, f, g, h, rfl, rfl⟩ := h
  exact .tup a b c d e f g h
theorem DkVal.nil (h : DkVal P w od [] kv vv) : DkTup P w od [] kv vv := by
  obtain ⟨kvs, es, ep, vs, ⟨a, b, c, d, e⟩, f, g, h1, rfl, rfl⟩ := h
  have : kvs = [] := by simpa using h1
  subst this
  cases f
  have he : es.toList = [] := by
    generalize es.toList = l at d
    cases d
    rfl
  exact ⟨[], [], es, ep, ⟨a, b, by rw [he]; rfl, List.nodup_nil⟩, .nil, Nat.zero_le _, rfl, (fun _ h => nomatch h), rfl, rfl⟩
theorem DkTup.nil (h : DkTup P w od [] kv vv) : DkVal P w od [] kv vv := by
  obtain ⟨xs, us, es, ep, ⟨a, b, c, d⟩, e, f, g, h, rfl, rfl⟩ := h
  have : xs = [] := by simpa [D.nks] using g
  subst this
  cases e
  have he : es.toList = [] := by rw [c]; rfl
  refine ⟨[], es, ep, [], ⟨a, b, fun e he' => ?_, by rw [he]; exact .nil, List.nodup_nil⟩, .nil, Nat.zero_le _, rfl, rfl, rfl⟩
  have : e ∈ es.toList := by simpa using he'
  rw [he] at this
  cases this
/-- all keys are of the sort of k -/
def sameK (k : D) (ks : List D) : Bool := ks.all fun x => D.isT x == D.isT k
theorem DkO.asTup (h : DkO P w od ks kv vv) {k : D} (ht : D.isT k = true) (hs : sameK k ks = true) : DkTup P w od ks kv vv := by
  rcases h.sort with h | h
  · cases ks with
    | nil => exact h.nil
    | cons x r =>
      obtain ⟨kvs, _, _, _, _, _, _, e, _, _⟩ := h
      cases kvs with
      | nil => simp at e
      | cons p q =>
        simp only [List.map_cons, List.cons.injEq] at e
        have := List.all_eq_true.mp hs x (by simp)
        rw [e.1, keyD_v.1, ht] at this
        cases this
  · exact h
theorem DkO.asVal (h : DkO P w od ks kv vv) {k : D} (ht : D.isT k = false) (hs : sameK k ks = true) : DkVal P w od ks kv vv := by
  rcases h.sort with h | h
  · exact h
  · cases ks with
    | nil => exact h.nil
    | cons x r =>
      obtain ⟨_, _, _, _, _, _, _, _, hk, _⟩ := h
      have := List.all_eq_true.mp hs x (by simp)
      rw [(tk_kk (hk x (by simp))).2, ht] at this
      cases this
theorem DkO.kks (h : DkO P w od ks kv vv) : ∀ k ∈ ks, D.kk k = true := by
  rcases h.sort with h | h
  · obtain ⟨kvs, _, _, _, _, _, _, rfl, _, _⟩ := h
    intro k hk
    obtain ⟨p, _, rfl⟩ := List.mem_map.mp hk
    exact keyD_v.2
  · obtain ⟨_, _, _, _, _, _, _, _, hk, _⟩ := h
    exact fun k hm => (tk_kk (hk k hm)).1
theorem DkO.lens (h : DkO P w od ks kv vv) : kv.length = ks.length ∧ vv.length = ks.length ∧ ks.length ≤ sizeLine := by
  rcases h.sort with h | h
  · obtain ⟨kvs, _, _, _, _, _, g, rfl, rfl, rfl⟩ := h
    simpa using g
  · obtain ⟨xs, _, _, _, _, _, g, e, _, rfl, rfl⟩ := h
    have : xs.length = ks.length := by
      have h1 := congrArg List.length e
      rw [List.length_map] at h1
      rw [h1, nks_len]
    rw [List.length_map, List.length_map, ← this]
    exact ⟨rfl, rfl, g⟩
end
theorem nks_get : ∀ {ks : List D} {n : Nat} {k : D}, ks[n]? = some k → (D.nks ks)[n]? = some (D.nk k)
  | [], _, _, h => by simp at h
  | _ :: _, 0, _, h => by simp at h; subst h; simp [D.nks]
  | _ :: ks, n + 1, k, h => by simpa [D.nks] using nks_get (ks := ks) (n := n) (k := k) (by simpa using h)
theorem nks_mem : ∀ {ks : List D} {k : D} {m : Nat}, D.kd m k = true → (∀ x ∈ ks, ∃ j, D.kd j x = true) → (D.nk k ∈ D.nks ks ↔ k ∈ ks)
  | [], _, _, _, _ => by simp [D.nks]
  | x :: ks, k, m, h, ha => by
    simp only [D.nks, List.mem_cons, nks_mem h fun y hy => ha y (List.mem_cons_of_mem _ hy)]
    obtain ⟨j, hj⟩ := ha x (by simp)
    exact ⟨fun z => z.imp (nk_inj h hj) id, fun z => z.imp (fun e => by rw [e]) id⟩
theorem paired_at {α β : Type} {R : α → β → Prop} : ∀ {xs : List α} {ys : List β} {n : Nat} {x : α}, Paired R xs ys → xs[n]? = some x → ∃ y, ys[n]? = some y ∧ R x y
  | _, _, _, _, .nil, h => by simp at h
  | _, _, 0, _, .cons r _, h => by simp at h; subst h; exact ⟨_, rfl, r⟩
  | _, _, n + 1, x, .cons _ t, h => by
    obtain ⟨y, h1, h2⟩ := paired_at (n := n) (x := x) t (by simpa using h)
    exact ⟨y, by simpa using h1, h2⟩
theorem valV_at {κ : Type} [DecidableEq κ] : ∀ {kvs : List (κ × V)} {n : Nat} {k : κ} {v : V}, (kvs.map (·.1)).Nodup → kvs[n]? = some (k, v) → valV kvs k = some v
  | [], _, _, _, _, h => by simp at h
  | p :: r, 0, k, v, _, h => by simp at h; subst h; exact valV_pos rfl
  | p :: r, n + 1, k, v, hn, h => by
    rw [List.map_cons, List.nodup_cons] at hn
    have h' : r[n]? = some (k, v) := by simpa using h
    have : ¬ p.1 = k := fun e => hn.1 (e ▸ List.mem_map.mpr ⟨(k, v), List.mem_of_getElem? h', rfl⟩)
    rw [valV_neg this]
    exact valV_at hn.2 h'
end Pu

set_option Elab.async false
set_option linter.all false
set_option maxRecDepth 100000
namespace Pu
open PySem PySem.Spec PyProof.Rows L2
/-! ### dicts, by the tables -/
def putKs (ks : List D) (k : D) : List D := match posD ks k with
  | some _ => ks
  | none => ks ++ [k]
def putKv {α : Type} (ks : List D) (k : D) (kv : List α) (y : α) : List α := match posD ks k with
  | some _ => kv
  | none => kv ++ [y]
def putVv {α : Type} (ks : List D) (k : D) (vv : List α) (v : α) : List α := match posD ks k with
  | some n => vv.set n v
  | none => vv ++ [v]
def atVv {α : Type} (ks : List D) (vv : List α) (k : D) : Option α := match posD ks k with
  | some n => vv[n]?
  | none => none
theorem map_upd {α β : Type} [DecidableEq β] (f : α → β) (g : α → α) : ∀ {l : List α} {n : Nat} {x : α}, (l.map f).Nodup → l[n]? = some x → l.map (fun y => if f y = f x then g y else y) = l.set n (g x)
  | [], _, _, _, h => by simp at h
  | z :: l, 0, x, hn, h => by
    simp at h
    subst h
    rw [List.map_cons, List.nodup_cons] at hn
    rw [List.map_cons, if_pos rfl, List.set_cons_zero]
    congr 1
    rw [show l = l.map id from (List.map_id l).symm, List.map_map]
    refine List.map_congr_left fun y hy => ?_
    show (if f y = f z then g y else y) = y
    exact if_neg fun e => hn.1 (List.mem_map.mpr ⟨y, hy, e⟩)
  | z :: l, n + 1, x, hn, h => by
    rw [List.map_cons, List.nodup_cons] at hn
    have h' : l[n]? = some x := by simpa using h
    have ne : ¬ f z = f x := fun e => hn.1 (e ▸ List.mem_map.mpr ⟨x, List.mem_of_getElem? h', rfl⟩)
    rw [List.map_cons, if_neg ne, List.set_cons_succ, map_upd f g hn.2 h']
theorem filter_ne {α β : Type} [DecidableEq β] (f : α → β) : ∀ {l : List α} {n : Nat} {x : α}, (l.map f).Nodup → l[n]? = some x → l.filter (fun y => decide (f y ≠ f x)) = l.eraseIdx n
  | [], _, _, _, h => by simp at h
  | z :: l, 0, x, hn, h => by
    simp at h
    subst h
    rw [List.map_cons, List.nodup_cons] at hn
    rw [List.filter_cons, if_neg (by simp), List.eraseIdx_zero, List.tail_cons]
    exact List.filter_eq_self.mpr fun y hy => decide_eq_true fun e => hn.1 (e ▸ List.mem_map.mpr ⟨y, hy, rfl⟩)
  | z :: l, n + 1, x, hn, h => by
    rw [List.map_cons, List.nodup_cons] at hn
    have h' : l[n]? = some x := by simpa using h
    have ne : ¬ f z = f x := fun e => hn.1 (e ▸ List.mem_map.mpr ⟨x, List.mem_of_getElem? h', rfl⟩)
    rw [List.filter_cons, if_pos (decide_eq_true ne), List.eraseIdx_cons_succ, filter_ne f hn.2 h']
theorem set_self {α : Type} : ∀ {l : List α} {n : Nat} {x : α}, l[n]? = some x → l.set n x = l
  | [], _, _, h => by simp at h
  | _ :: _, 0, _, h => by simp at h; subst h; rfl
  | _ :: l, n + 1, x, h => by rw [List.set_cons_succ, set_self (by simpa using h)]
theorem map_eraseIdx {α β : Type} (f : α → β) : ∀ {l : List α} {n : Nat}, (l.eraseIdx n).map f = (l.map f).eraseIdx n
  | [], _ => rfl
  | _ :: _, 0 => rfl
  | _ :: l, n + 1 => by simp [map_eraseIdx f (l := l) (n := n)]
theorem atKey_none {K : Type} [DecidableEq K] {xs : List (K × Addr × Value)} {k : K} (h : k ∉ xs.map (·.1)) : atKey xs k = none := by
  unfold atKey
  rw [List.find?_eq_none.mpr fun x hx e => h (List.mem_map.mpr ⟨x, hx, of_decide_eq_true e⟩)]
  rfl
section
variable {P : Program} {w : World} {od : Obj} {ks : List D} {kv vv : List V} {h : Heap} {a : Addr}
theorem posV {kvs : List (Key × V)} {κ : Key} : ∀ {n : Nat}, posD (kvs.map fun p => keyD p.1) (keyD κ) = some n → ∃ v, kvs[n]? = some (κ, v) := fun {n} h => by
  have := posD_get h
  rw [List.getElem?_map] at this
  cases q : kvs[n]? with
  | none => rw [q] at this; cases this
  | some p =>
    rw [q] at this
    have e := keyD_inj (Option.some.inj this)
    exact ⟨p.2, by rw [← e]⟩
theorem posV_none {kvs : List (Key × V)} {κ : Key} (h : posD (kvs.map fun p => keyD p.1) (keyD κ) = none) : valV kvs κ = none := by
  have h' := posD_none.mp h
  cases q : valV kvs κ with
  | none => rfl
  | some v =>
    exfalso
    have hs : (kvs.any fun kv => decide (kv.1 = κ)) = true := by rw [valV_any, q]; rfl
    obtain ⟨p, hp, e⟩ := List.any_eq_true.mp hs
    exact h' (List.mem_map.mpr ⟨p, hp, by rw [of_decide_eq_true e]⟩)
/-- what stands at the key -/
def RelN (o : Option V) (u : Option Value) : Prop := RelO o u
theorem val_open (g : h.get? a = some od) (hk : DkVal P w od ks kv vv) {κ : Key} (y : V) :
    ∃ vs, h.DictOf (mixKind P w) a vs ∧ vs.length ≤ sizeLine ∧ RelO (atVv ks vv (keyD κ)) (valueAt vs κ) ∧
      (∀ (h' : Heap) (v : V) (r : Value), RelV v r → ks.length < sizeLine → h'.DictOf (mixKind P w) a (stored vs κ r) → ∃ od', h'.get? a = some od' ∧ (y = kV κ → DkO P w od' (putKs ks (keyD κ)) (putKv ks (keyD κ) kv y) (putVv ks (keyD κ) vv v))) ∧
      ∀ (h' : Heap) (n : Nat), posD ks (keyD κ) = some n → h'.DictOf (mixKind P w) a (without vs κ) → ∃ od', h'.get? a = some od' ∧ DkO P w od' (ks.eraseIdx n) (kv.eraseIdx n) (vv.eraseIdx n) := by
  obtain ⟨kvs, es, ep, vs, ⟨h1, h2, h3, h4, h5⟩, hkv, hl, rfl, rfl, rfl⟩ := hk
  have nd : (kvs.map (·.1)).Nodup := by rw [hkv.keys]; exact h5
  refine ⟨vs, ⟨od, es, ep, g, h1, h2, h3, h4, h5⟩, by rw [← hkv.length]; exact hl, ?_, fun h' v r rv hlt dd => ?_, fun h' n hn dd => ?_⟩
  · have := hkv.val κ
    unfold atVv
    cases q : posD (kvs.map fun p => keyD p.1) (keyD κ) with
    | none => rw [posV_none q] at this; exact this
    | some n =>
      obtain ⟨v, hv⟩ := posV q
      rw [valV_at nd hv] at this
      simp only [List.getElem?_map, hv]
      exact this
  · obtain ⟨o, es', ep', e1, e2, e3, e4, e5, e6⟩ := dd
    refine ⟨o, e1, fun ey => ?_⟩
    subst ey
    have kp := hkv.put κ rv
    have hpl : (putK kvs κ v).length ≤ sizeLine := by
      have := length_putK kvs κ v
      rw [List.length_map] at hlt
      omega
    have := DkO.val (P := P) (w := w) e2 e3 e4 e5 e6 kp hpl
    have e : putKs (kvs.map fun p => keyD p.1) (keyD κ) = (putK kvs κ v).map (fun p => keyD p.1) ∧ putKv (kvs.map fun p => keyD p.1) (keyD κ) (kvs.map fun p => kV p.1) (kV κ) = (putK kvs κ v).map (fun p => kV p.1) ∧ putVv (kvs.map fun p => keyD p.1) (keyD κ) (kvs.map (·.2)) v = (putK kvs κ v).map (·.2) := by
      unfold putKs putKv putVv
      cases q : posD (kvs.map fun p => keyD p.1) (keyD κ) with
      | none => rw [putK_new v (posV_none q)]; simp
      | some n =>
        obtain ⟨v0, hv⟩ := posV q
        have e7 : putK kvs κ v = kvs.set n (κ, v) := by
          unfold putK
          rw [if_pos (by rw [valV_any, valV_at nd hv]; rfl)]
          exact map_upd (·.1) (fun kv => (kv.1, v)) nd hv
        rw [e7]
        simp only [List.map_set]
        refine ⟨(set_self (by rw [List.getElem?_map, hv]; rfl)).symm, (set_self (by rw [List.getElem?_map, hv]; rfl)).symm, ?_⟩
        first | rfl | trivial
    rw [e.1, e.2.1, e.2.2]
    exact this
  · obtain ⟨o, es', ep', e1, e2, e3, e4, e5, e6⟩ := dd
    refine ⟨o, e1, ?_⟩
    obtain ⟨v0, hv⟩ := posV hn
    have kp := hkv.drop κ
    have := DkO.val (P := P) (w := w) e2 e3 e4 e5 e6 kp (Nat.le_trans (dropK_le kvs κ) hl)
    have e7 : dropK kvs κ = kvs.eraseIdx n := by
      have := filter_ne (fun p : Key × V => p.1) nd hv
      exact this
    rw [e7] at this
    rw [← map_eraseIdx, ← map_eraseIdx, ← map_eraseIdx]
    exact this
theorem tks_kd {ks : List D} (hk : ∀ k ∈ ks, D.tk k = true) : ∀ x ∈ ks, ∃ j, D.kd j x = true := fun x hx => by
  have := hk x hx
  cases x <;> simp [D.tk] at this
  exact ⟨8, by simpa [D.kd] using this⟩
theorem posT {xs : List (NestedKey × Addr × V)} {ks : List D} {k : D} (e : xs.map (·.1) = D.nks ks) {n : Nat} (h : posD ks k = some n) : ∃ b v, xs[n]? = some (D.nk k, b, v) := by
  have := nks_get (posD_get h)
  rw [← e, List.getElem?_map] at this
  cases q : xs[n]? with
  | none => rw [q] at this; cases this
  | some p =>
    rw [q] at this
    have := Option.some.inj this
    exact ⟨p.2.1, p.2.2, by rw [← this]⟩
theorem paired_map {xs : List (NestedKey × Addr × V)} {us : List (NestedKey × Addr × Value)} (hp : Paired (fun p q => p.1 = q.1 ∧ p.2.1 = q.2.1 ∧ RelV p.2.2 q.2.2) xs us) : xs.map (·.1) = us.map (·.1) := by
  induction hp with
  | nil => rfl
  | cons r t ih => simp [ih, r.1]
theorem paired_set {α β : Type} {R : α → β → Prop} {x : α} {y : β} (r : R x y) : ∀ {xs : List α} {ys : List β} {n : Nat}, Paired R xs ys → Paired R (xs.set n x) (ys.set n y)
  | _, _, _, .nil => .nil
  | _, _, 0, .cons _ t => .cons r t
  | _, _, n + 1, .cons q t => .cons q (paired_set r (n := n) t)
theorem paired_erase {α β : Type} {R : α → β → Prop} : ∀ {xs : List α} {ys : List β} {n : Nat}, Paired R xs ys → Paired R (xs.eraseIdx n) (ys.eraseIdx n)
  | _, _, _, .nil => .nil
  | _, _, 0, .cons _ t => t
  | _, _, n + 1, .cons q t => .cons q (paired_erase (n := n) t)
theorem nks_app : ∀ (a b : List D), D.nks (a ++ b) = D.nks a ++ D.nks b
  | [], _ => rfl
  | x :: a, b => by simp [D.nks, nks_app a b]
theorem nks_erase : ∀ {ks : List D} {n : Nat}, D.nks (ks.eraseIdx n) = (D.nks ks).eraseIdx n
  | [], _ => rfl
  | _ :: _, 0 => by simp [D.nks]
  | _ :: ks, n + 1 => by simp [D.nks, nks_erase (ks := ks) (n := n)]
theorem tup_open {W : Wd} {H : Hp} {K : PySem.W.Frag} (g : h.get? a = some od) (hk : DkTup P w od ks kv vv) (ok : HOk P w H h) (kin : K.In h) (fk : FRs (wd P w K) H kv ks) {k : D} (kt : D.tk k = true) (b : Addr) :
    ∃ us, h.DictOfH (nestedKind P w) a us ∧ us.length ≤ sizeLine ∧ RelO (atVv ks vv k) ((atKey us (D.nk k)).map (·.2)) ∧
      (∀ (h' : Heap) (v : V) (r : Value), RelV v r → ks.length < sizeLine → h'.DictOfH (nestedKind P w) a (storedH us (D.nk k) b r) → ∃ od', h'.get? a = some od' ∧ DkO P w od' (putKs ks k) (putKv ks k kv (.ref b)) (putVv ks k vv v)) ∧
      ∀ (h' : Heap) (n : Nat), posD ks k = some n → h'.DictOfH (nestedKind P w) a (withoutH us (D.nk k)) → ∃ od', h'.get? a = some od' ∧ DkO P w od' (ks.eraseIdx n) (kv.eraseIdx n) (vv.eraseIdx n) := by
  obtain ⟨xs, us, es, ep, ⟨h1, h2, h3, h4⟩, hp, hl, hx, hkk, rfl, rfl⟩ := hk
  have hxu := paired_map hp
  have lks : xs.length = ks.length := by have := congrArg List.length hx; rw [List.length_map, nks_len] at this; exact this
  have his : ∀ x ∈ us, (nestedKind P w).is h x.1 x.2.1 := fun x hm => by
    obtain ⟨n, hn⟩ := List.mem_iff_getElem?.mp hm
    have hln : n < xs.length := by
      have := (List.getElem?_eq_some_iff.mp hn).1
      have l := congrArg List.length hxu
      rw [List.length_map, List.length_map] at l
      omega
    obtain ⟨y, hy, r1, r2, _⟩ := paired_at hp (List.getElem?_eq_getElem hln)
    rw [hn] at hy
    cases hy
    have hkn := List.getElem?_eq_getElem (show n < ks.length by omega)
    generalize ks[n] = k0 at hkn
    have e1 := nks_get hkn
    rw [← hx, List.getElem?_map, List.getElem?_eq_getElem hln] at e1
    obtain ⟨v1, hv1, f1⟩ := fk.get hkn
    rw [List.getElem?_map, List.getElem?_eq_getElem hln] at hv1
    cases hv1
    have ht := hkk k0 (List.mem_of_getElem? hkn)
    have kd : D.kd 8 k0 = true := by cases k0 <;> simp [D.tk] at ht; simpa [D.kd] using ht
    have q := nis_of ok kin f1 kd (.ref _) rfl
    have e2 := Option.some.inj e1
    have e2 : xs[n].1 = D.nk k0 := e2
    rw [← e2, r1, r2] at q
    refine ⟨q, ?_⟩
    rw [← r1, e2]
    exact nk_depth kd
  have kd : D.kd 8 k = true := by cases k <;> simp [D.tk] at kt; simpa [D.kd] using kt
  have none_of : posD ks k = none → atKey us (D.nk k) = none := fun q => atKey_none fun z => posD_none.mp q ((nks_mem kd (tks_kd hkk)).mp (by rw [← hx, hxu]; exact z))
  have some_of : ∀ {n}, posD ks k = some n → ∃ b0 v0 r0, xs[n]? = some (D.nk k, b0, v0) ∧ us[n]? = some (D.nk k, b0, r0) ∧ RelV v0 r0 ∧ atKey us (D.nk k) = some (b0, r0) := fun {n} q => by
    obtain ⟨b0, v0, hv⟩ := posT hx q
    obtain ⟨⟨k1, b1, r1⟩, hu, e1, e2, e3⟩ := paired_at hp hv
    simp only at e1 e2 e3
    subst e1 e2
    exact ⟨_, _, _, hv, hu, e3, atKey_of_get h4 hu⟩
  refine ⟨us, ⟨od, es, ep, g, h1, h2, h3, his, h4⟩, by rw [← Paired.length hp]; exact hl, ?_, fun h' v r rv hlt dd => ?_, fun h' n hn dd => ?_⟩
  · unfold atVv
    cases q : posD ks k with
    | none => rw [none_of q]; exact True.intro
    | some n =>
      obtain ⟨b0, v0, r0, e1, e2, e3, e4⟩ := some_of q
      rw [e4]
      simp only [List.getElem?_map, e1]
      exact e3
  · obtain ⟨o, es', ep', e1, e2, e3, e4, e5, e6⟩ := dd
    refine ⟨o, e1, ?_⟩
    unfold putKs putKv putVv
    cases q : posD ks k with
    | none =>
      rw [storedH_new (none_of q)] at e4 e6
      have := DkO.tup (P := P) (w := w) (xs := xs ++ [(D.nk k, b, v)]) (ks := ks ++ [k]) e2 e3 e4 e6 (Paired.snoc hp ⟨rfl, rfl, rv⟩) (by rw [List.length_append, List.length_singleton]; omega) (by rw [List.map_append, hx, nks_app]; rfl) (fun z hz => by
        rcases List.mem_append.mp hz with hz | hz
        · exact hkk z hz
        · rw [List.mem_singleton] at hz; subst hz; exact kt)
      simpa using this
    | some n =>
      obtain ⟨b0, v0, r0, f1, f2, f3, f4⟩ := some_of q
      rw [storedH_old f4] at e4 e6
      have f5 : us.map (putAt (D.nk k) r) = us.set n (D.nk k, b0, r) := by
        have := map_upd (·.1) (fun x : NestedKey × Addr × Value => (x.1, x.2.1, r)) h4 f2
        exact this
      rw [f5] at e4 e6
      have := DkO.tup (P := P) (w := w) (xs := xs.set n (D.nk k, b0, v)) (ks := ks) e2 e3 e4 e6 (paired_set (R := fun (p : NestedKey × Addr × V) (q : NestedKey × Addr × Value) => p.1 = q.1 ∧ p.2.1 = q.2.1 ∧ RelV p.2.2 q.2.2) ⟨rfl, rfl, rv⟩ hp) (by rw [List.length_set]; exact hl) (by
        rw [List.map_set, set_self (by rw [List.getElem?_map, f1]; rfl)]; exact hx) hkk
      rw [List.map_set, List.map_set, set_self (l := xs.map fun x => V.ref x.2.1) (by rw [List.getElem?_map, f1]; rfl)] at this
      exact this
  · obtain ⟨o, es', ep', e1, e2, e3, e4, e5, e6⟩ := dd
    refine ⟨o, e1, ?_⟩
    obtain ⟨b0, v0, r0, f1, f2, f3, f4⟩ := some_of hn
    have f5 : withoutH us (D.nk k) = us.eraseIdx n := by
      have := filter_ne (·.1) h4 f2
      unfold withoutH
      rw [← this]
    rw [f5] at e4 e6
    have := DkO.tup (P := P) (w := w) (xs := xs.eraseIdx n) (ks := ks.eraseIdx n) e2 e3 e4 e6 (paired_erase hp) (Nat.le_trans (List.length_eraseIdx_le xs n) hl) (by rw [map_eraseIdx, hx, nks_erase]) (fun z hz => hkk z (List.mem_of_mem_eraseIdx hz))
    rw [map_eraseIdx, map_eraseIdx] at this
    exact this
end
end Pu

set_option Elab.async false
set_option linter.all false
set_option maxRecDepth 100000
namespace Pu
open PySem PySem.Spec PyProof.Rows L2
/-- a dict stands at a -/
structure DcA (W : Wd) (H : Hp) (a : Addr) (od : Obj) (ks : List D) (kv vv : List V) : Prop where
  at_ : H a = some (ob a od)
  dk : DkO W.P W.w od ks kv vv
  fk : FRs W H kv ks
/-- y is the key k, of the sort of ks -/
structure KyA (W : Wd) (H : Hp) (y : V) (k : D) (ks : List D) : Prop where
  fr : FR W H y k
  kk : D.kk k = true
  sk : sameK k ks = true
abbrev xd (X : Cx) : Wd := wd X.prog X.w X.K
section
variable {X : Cx} {pins : List (Addr × Obj)} {σ : L2.St} {H : Hp} {s : Shared} {a : Addr} {od : Obj} {ks : List D} {kv vv : List V} {y v : V} {k : D} {u r : Value} {E : Value → Shared → Prop} {n : Nat}
theorem DcA.get (d : DcA (xd X) H a od ks kv vv) (I : Inv X pins σ H s) : s.heap.get? a = some od ∧ (a == sysModules) = false := (I.hok a _ d.at_).1
theorem room8 (hu : X.A.units + 65 < cLine) : (nestedKind X.prog X.w).room X.A.in1 := by
  show X.A.in1.units + 8 < cLine
  rw [Around.in1_units]
  omega
theorem KyA.ref (q : KyA (xd X) H y k ks) (ht : D.isT k = true) : ∃ b, y = .ref b ∧ D.tk k = true := by
  obtain ⟨xs, rfl, h⟩ := kk_t q.kk ht
  cases q.fr
  exact ⟨_, rfl, h⟩
theorem KyA.is (q : KyA (xd X) H (.ref b) k ks) (ht : D.tk k = true) (I : Inv X pins σ H s) : (nestedKind X.prog X.w).is s.heap (D.nk k) b := by
  have kd : D.kd 8 k = true := by
    have := ht
    cases k <;> simp [D.tk] at this
    simpa [D.kd] using this
  exact ⟨nis_of I.hok I.kIn q.fr kd _ rfl, nk_depth kd⟩
/-- d[y], there -/
theorem d_getX (hu : X.A.units + 65 < cLine) (I : Inv X pins σ H s) (d : DcA (xd X) H a od ks kv vv) (q : KyA (xd X) H y k ks) (hv : atVv ks vv k = some v) (ry : RelV y u) :
    ∃ w', RelV v w' ∧ ∀ Q : Value → Shared → Prop, (∀ s', Inv X pins σ H s' → Q w' s') → wpAny (model X.prog X.w) X.A (getItem (.ref a) u) Q E s := by
  obtain ⟨g, gs⟩ := d.get I
  cases ht : D.isT k with
  | false =>
    obtain ⟨κ, rfl⟩ := kk_v q.kk ht
    have ey := fr_key q.fr
    subst ey
    obtain ⟨vs, dd, _, rel, _, _⟩ := val_open g (d.dk.asVal ht q.sk) (κ := κ) (kV κ)
    rw [hv] at rel
    cases hw : valueAt vs κ with
    | none => rw [hw] at rel; exact rel.elim
    | some w' =>
      rw [hw] at rel
      exact ⟨w', rel, fun Q h => wpAny_getItem_of (kV_is ry) dd.mapOf hw (h _ (I.tok _))⟩
  | true =>
    obtain ⟨b, rfl, tk⟩ := q.ref ht
    cases (show u = _ from ry)
    obtain ⟨us, dd, _, rel, _, _⟩ := tup_open (W := xd X) g (d.dk.asTup ht q.sk) I.hok I.kIn d.fk tk b
    rw [hv] at rel
    cases hw : atKey us (D.nk k) with
    | none => rw [hw] at rel; exact rel.elim
    | some p =>
      rw [hw] at rel
      exact ⟨p.2, rel, fun Q h => wpAny_getItem_heap (room8 hu) (q.is tk I) dd hw (h _ (I.tok _))⟩
theorem at_iff {α : Type} {vv : List α} (hl : vv.length = ks.length) : (atVv ks vv k).isSome = decide (k ∈ ks) := by
  unfold atVv
  cases q : posD ks k with
  | none => simp [posD_none.mp q]
  | some n =>
    have h1 := posD_get q
    have h2 := (List.getElem?_eq_some_iff.mp h1).1
    simp only [List.mem_of_getElem? h1, decide_true]
    rw [List.getElem?_eq_getElem (by omega)]
    rfl
theorem d_inX (neg : Bool) (hu : X.A.units + 65 < cLine) (I : Inv X pins σ H s) (d : DcA (xd X) H a od ks kv vv) (q : KyA (xd X) H y k ks) (ry : RelV y u) {Q : Value → Shared → Prop} (h : ∀ s', Inv X pins σ H s' → Q (.bool (neg ^^ decide (k ∈ ks))) s') :
    wpAny (model X.prog X.w) X.A (compareOp (if neg = true then .NotIn else .In) u (.ref a)) Q E s := by
  obtain ⟨g, gs⟩ := d.get I
  cases ht : D.isT k with
  | false =>
    obtain ⟨κ, rfl⟩ := kk_v q.kk ht
    have ey := fr_key q.fr
    subst ey
    obtain ⟨vs, dd, _, rel, _, _⟩ := val_open g (d.dk.asVal ht q.sk) (κ := κ) (kV κ)
    have e := rel.isSome_eq
    rw [at_iff d.dk.lens.2.1] at e
    cases neg with
    | false => exact wpAny_in_of (kV_is ry) gs dd.mapOf (by rw [← e]; have := h _ (I.tok (s.toks + 1)); rw [Bool.false_xor] at this; exact this)
    | true => exact wpAny_notIn_of (kV_is ry) gs dd.mapOf (by rw [← e]; have := h _ (I.tok (s.toks + 1)); rw [Bool.true_xor] at this; exact this)
  | true =>
    obtain ⟨b, rfl, tk⟩ := q.ref ht
    cases (show u = _ from ry)
    obtain ⟨us, dd, _, rel, _, _⟩ := tup_open (W := xd X) g (d.dk.asTup ht q.sk) I.hok I.kIn d.fk tk b
    have e := rel.isSome_eq
    rw [at_iff d.dk.lens.2.1, Option.isSome_map] at e
    cases neg with
    | false => exact wpAny_in_heap (room8 hu) (q.is tk I) gs dd (by rw [← e]; have := h _ (I.tok (s.toks + (nestedKind X.prog X.w).draws (D.nk k))); rw [Bool.false_xor] at this; exact this)
    | true => exact wpAny_notIn_heap (room8 hu) (q.is tk I) gs dd (by rw [← e]; have := h _ (I.tok (s.toks + (nestedKind X.prog X.w).draws (D.nk k))); rw [Bool.true_xor] at this; exact this)
theorem ob_ok {h' : Heap} {H' : Hp} {od' : Obj} (e : h'.get? a = some od') (gs : (a == sysModules) = false) : ObjOk X.prog X.w H' h' a (ob a od') :=
  ⟨⟨e, gs⟩, ⟨_, e⟩, fun h1 h2 z k => ⟨k _ z.1, z.2⟩⟩
theorem d_writeX {h' : Heap} {t' : Nat} {od' : Obj} (I : Inv X pins σ H s) (d : DcA (xd X) H a od ks kv vv) (e : h'.get? a = some od') (sb : Heap.SameBut a s.heap h') : Inv X pins σ (upd H a (ob a od')) { s with heap := h', toks := t' } :=
  d_write I (by rw [d.at_]; exact True.intro) sb ⟨_, e⟩ (ob_ok e (d.get I).2)
/-- d[y] = v -/
theorem d_setX {Q : Unit → Shared → Prop} (hu : X.A.units + 65 < cLine) (I : Inv X pins σ H s) (d : DcA (xd X) H a od ks kv vv) (q : KyA (xd X) H y k ks) (hl : ks.length < sizeLine) (ry : RelV y u) (rv : RelV v r)
    (h : ∀ od' s', DkO X.prog X.w od' (putKs ks k) (putKv ks k kv y) (putVv ks k vv v) → Inv X pins σ (upd H a (ob a od')) s' → Q () s') : wpAny (model X.prog X.w) X.A (setItem (.ref a) u r) Q E s := by
  obtain ⟨g, gs⟩ := d.get I
  cases ht : D.isT k with
  | false =>
    obtain ⟨κ, rfl⟩ := kk_v q.kk ht
    have ey := fr_key q.fr
    subst ey
    obtain ⟨vs, dd, hz, rel, st, _⟩ := val_open g (d.dk.asVal ht q.sk) (κ := κ) (kV κ)
    refine wpAny_setItem_pairs (hsz := hz) (kV_is ry) dd fun h' dd' hs => ?_
    obtain ⟨od', e, dk'⟩ := st h' v r rv hl dd'
    exact h od' _ (dk' rfl) (d_writeX I d e hs)
  | true =>
    obtain ⟨b, rfl, tk⟩ := q.ref ht
    cases (show u = _ from ry)
    obtain ⟨us, dd, hz, rel, st, _⟩ := tup_open (W := xd X) g (d.dk.asTup ht q.sk) I.hok I.kIn d.fk tk b
    refine wpAny_setItem_heap (hsz := hz) (room8 hu) (q.is tk I) dd fun h' dd' hs => ?_
    obtain ⟨od', e, dk'⟩ := st h' v r rv hl dd'
    exact h od' _ dk' (d_writeX I d e hs)
/-- d.pop(y[, x]), there -/
theorem d_popX {Q : Value → Shared → Prop} {more : List Value} (hm : more = [] ∨ ∃ x, more = [x]) (hu : X.A.units + 65 < cLine) (I : Inv X pins σ H s) (d : DcA (xd X) H a od ks kv vv) (q : KyA (xd X) H y k ks) (hn : posD ks k = some n) (hv : vv[n]? = some v) (ry : RelV y u)
    (h : ∀ w' od' s', RelV v w' → DkO X.prog X.w od' (ks.eraseIdx n) (kv.eraseIdx n) (vv.eraseIdx n) → Inv X pins σ (upd H a (ob a od')) s' → Q w' s') : wpAny (model X.prog X.w) X.A (call (.builtin "dict.pop") (.ref a :: u :: more)) Q E s := by
  obtain ⟨g, gs⟩ := d.get I
  have hv' : atVv ks vv k = some v := by unfold atVv; rw [hn]; exact hv
  have ha : argsOk "dict.pop" ⟨.ref a :: u :: more, []⟩ := by
    rcases hm with q | ⟨x, q⟩
    · subst q; exact PySem.F.args_dict_pop_2 _ _
    · subst q; exact PySem.F.args_dict_pop_3 _ _ _
  cases ht : D.isT k with
  | false =>
    obtain ⟨κ, rfl⟩ := kk_v q.kk ht
    have ey := fr_key q.fr
    subst ey
    obtain ⟨vs, dd, hz, rel, _, st⟩ := val_open g (d.dk.asVal ht q.sk) (κ := κ) (kV κ)
    rw [hv'] at rel
    cases hw : valueAt vs κ with
    | none => rw [hw] at rel; exact rel.elim
    | some w' =>
      rw [hw] at rel
      have hp : (keyPart u).isSome = true := by
        cases κ with
        | inl i => obtain ⟨t, q⟩ := (show ∃ t, u = Value.int i t from ry); subst q; rfl
        | inr x => obtain ⟨t, q⟩ := (show ∃ t, u = Value.str x t from ry); subst q; rfl
      refine call_meetsIn PySem.F.slot_dict_pop dd.typeIs PySem.F.entry_dict_pop ha (meets_dict_pop_there (mixKind X.prog X.w) a (kV_is ry) more hm hp) ⟨vs, w', dd, hz, hw, fun h' dd' hs => ?_⟩
      obtain ⟨od', e, dk'⟩ := st h' n hn dd'
      exact h w' od' _ rel dk' (d_writeX I d e hs)
  | true =>
    obtain ⟨b, rfl, tk⟩ := q.ref ht
    cases (show u = _ from ry)
    obtain ⟨us, dd, hz, rel, _, st⟩ := tup_open (W := xd X) g (d.dk.asTup ht q.sk) I.hok I.kIn d.fk tk b
    rw [hv'] at rel
    cases hw : atKey us (D.nk k) with
    | none => rw [hw] at rel; exact rel.elim
    | some p =>
      rw [hw] at rel
      refine call_pop_heap (hsz := hz) hm ha (room8 hu) (q.is tk I) gs dd hw fun h' dd' hs => ?_
      obtain ⟨od', e, dk'⟩ := st h' n hn dd'
      exact h p.2 od' _ rel dk' (d_writeX I d e hs)
/-- d.get(y), d.get(y, x) -/
theorem d_getM {Q : Value → Shared → Prop} (hu : X.A.units + 65 < cLine) (I : Inv X pins σ H s) (d : DcA (xd X) H a od ks kv vv) (q : KyA (xd X) H y k ks) (ry : RelV y u)
    (h : ∀ w' s', Inv X pins σ H s' → RelV ((atVv ks vv k).getD .non) w' → Q w' s') : wpAny (model X.prog X.w) X.A (call (.builtin "dict.get") [.ref a, u]) Q E s := by
  obtain ⟨g, gs⟩ := d.get I
  cases ht : D.isT k with
  | false =>
    obtain ⟨κ, rfl⟩ := kk_v q.kk ht
    have ey := fr_key q.fr
    subst ey
    obtain ⟨vs, dd, _, rel, _, _⟩ := val_open g (d.dk.asVal ht q.sk) (κ := κ) (kV κ)
    exact call_meetsIn PySem.F.slot_dict_get dd.typeIs PySem.F.entry_dict_get (PySem.F.args_dict_get_2 _ _) (meets_dict_get (mixKind X.prog X.w) a (kV_is ry) gs) ⟨_, dd.mapOf, h _ _ (I.tok _) (rel.getD rfl)⟩
  | true =>
    obtain ⟨b, rfl, tk⟩ := q.ref ht
    cases (show u = _ from ry)
    obtain ⟨us, dd, _, rel, _, _⟩ := tup_open (W := xd X) g (d.dk.asTup ht q.sk) I.hok I.kIn d.fk tk b
    exact call_meetsIn PySem.F.slot_dict_get dd.typeIs PySem.F.entry_dict_get (PySem.F.args_dict_get_2 _ _) (meetsH_dict_get (nestedKind X.prog X.w) a b gs) ⟨room8 hu, D.nk k, us, q.is tk I, dd, h _ _ (I.tok _) (rel.getD rfl)⟩
theorem d_getM2 {x : V} {Q : Value → Shared → Prop} (hu : X.A.units + 65 < cLine) (I : Inv X pins σ H s) (d : DcA (xd X) H a od ks kv vv) (q : KyA (xd X) H y k ks) (ry : RelV y u) (rx : RelV x r)
    (h : ∀ w' s', Inv X pins σ H s' → RelV ((atVv ks vv k).getD x) w' → Q w' s') : wpAny (model X.prog X.w) X.A (call (.builtin "dict.get") [.ref a, u, r]) Q E s := by
  obtain ⟨g, gs⟩ := d.get I
  cases ht : D.isT k with
  | false =>
    obtain ⟨κ, rfl⟩ := kk_v q.kk ht
    have ey := fr_key q.fr
    subst ey
    obtain ⟨vs, dd, _, rel, _, _⟩ := val_open g (d.dk.asVal ht q.sk) (κ := κ) (kV κ)
    exact call_meetsIn PySem.F.slot_dict_get dd.typeIs PySem.F.entry_dict_get (PySem.F.args_dict_get_3 _ _ _) (meets_dict_get_default (mixKind X.prog X.w) a (kV_is ry) gs r) ⟨_, dd.mapOf, h _ _ (I.tok _) (rel.getD rx)⟩
  | true =>
    obtain ⟨b, rfl, tk⟩ := q.ref ht
    cases (show u = _ from ry)
    obtain ⟨us, dd, _, rel, _, _⟩ := tup_open (W := xd X) g (d.dk.asTup ht q.sk) I.hok I.kIn d.fk tk b
    exact call_meetsIn PySem.F.slot_dict_get dd.typeIs PySem.F.entry_dict_get (PySem.F.args_dict_get_3 _ _ _) (meetsH_dict_get_default (nestedKind X.prog X.w) a b gs r) ⟨room8 hu, D.nk k, us, q.is tk I, dd, h _ _ (I.tok _) (rel.getD rx)⟩
end
/-! ### the dict's object, raw -/
theorem DkO.raw {P : Program} {w : World} {od : Obj} {ks : List D} {kv vv : List V} (h : DkO P w od ks kv vv) : ∃ es ep, od.ExactDict ∧ od.data = .dict es ep ∧ es.size = ks.length ∧
    ∀ (i : Nat) (y : V), kv[i]? = some y → ∃ en : DictEntry, es[i]? = some en ∧ RelV y en.key := by
  rcases h.sort with h | h
  · obtain ⟨kvs, es, ep, vs, ⟨h1, h2, h3, h4, h5⟩, hkv, hl, rfl, rfl, rfl⟩ := h
    have l1 := h4.length
    rw [Array.length_toList] at l1
    have l2 := hkv.length
    refine ⟨es, ep, h1, h2, by rw [List.length_map]; omega, fun i y hy => ?_⟩
    rw [List.getElem?_map] at hy
    cases q : kvs[i]? with
    | none => rw [q] at hy; cases hy
    | some p =>
      rw [q] at hy
      cases hy
      obtain ⟨z, hz, e1, e2⟩ := paired_at hkv q
      have key : ∀ {es : List DictEntry} {vs : List (Key × Value)} {i : Nat} {z : Key × Value}, Pairs (mixKind P w) es vs → vs[i]? = some z → ∃ en, es[i]? = some en ∧ (mixKind P w).is z.1 en.key = true := by
        intro es vs i z hp hz
        induction hp generalizing i with
        | nil => simp at hz
        | cons r1 r2 t ih =>
          cases i with
          | zero => simp at hz; subst hz; exact ⟨_, rfl, r1⟩
          | succ i => simpa using ih (i := i) (by simpa using hz)
      obtain ⟨en, he, ek⟩ := key h4 hz
      refine ⟨en, by rw [← Array.getElem?_toList]; exact he, ?_⟩
      show RelV (kV p.1) en.key
      rw [e1]
      exact relV_key (show keyIs z.1 en.key = true from ek)
  · obtain ⟨xs, us, es, ep, ⟨h1, h2, h3, h4⟩, hp, hl, hx, hkk, rfl, rfl⟩ := h
    have l1 := congrArg List.length h3
    rw [Array.length_toList, List.length_map] at l1
    have l2 := Paired.length hp
    have l3 := congrArg List.length hx
    rw [List.length_map, nks_len] at l3
    refine ⟨es, ep, h1, h2, by omega, fun i y hy => ?_⟩
    rw [List.getElem?_map] at hy
    cases q : xs[i]? with
    | none => rw [q] at hy; cases hy
    | some p =>
      rw [q] at hy
      cases hy
      obtain ⟨z, hz, e1, e2, _⟩ := paired_at hp q
      refine ⟨entryOfKey (nestedKind P w) z, ?_, ?_⟩
      · rw [← Array.getElem?_toList, h3, List.getElem?_map, hz]; rfl
      · show Value.ref z.2.1 = Value.ref p.2.1
        rw [e2]
end Pu

set_option Elab.async false
set_option linter.all false
set_option maxRecDepth 100000
namespace Pu
open PySem PySem.Spec PyProof.Rows L2
/-! ### dicts at the model -/
section
variable {X : Cx}
theorem kdl_raw {P : Program} {w : World} {d : Addr} {es : Array DictEntry} {ep : Nat} (lo : (d == sysModules) = false) : PySem.W.KdlSrc P w "dict" d d es.size (fun i v => ∃ hi : i < es.size, v = es[i].key) (fun h => h.DictRaw d es ep) where
  type := fun _ hm => hm.typeIs
  there := fun _ hm => let ⟨_, ho, _⟩ := hm; ⟨Heap.lt_size ho, Heap.lt_size ho⟩
  keep := fun _ _ hm hk => hm.at fun o e => hk d (.inl rfl) o e
  notList := by decide
  notTuple := by decide
  hint := fun _ _ _ _ hm hq => PySem.W.kdl_hint_dict hm.typeIs hq
  iter := fun _ s hh hm => by
    have hlt : d < s.heap.objs.size := let ⟨_, ho, _⟩ := hm; Heap.lt_size ho
    refine ⟨{ cls := .type "dict_keyiterator", data := .fields #[.ref d, .int 0 0, .int es.size 0, .int ep 0] }, _, fun _ _ hq => ?_, Walks.rawKeys hh _ d (Nat.ne_of_lt hlt) es ep, ⟨⟨_, Heap.get?_push_size _ rfl, rfl, rfl⟩, hm.at fun o e => Heap.get?_push_of_some _ e⟩⟩
    obtain ⟨o, ho, hc, hd⟩ := hm
    exact iter_keys lo ho hc hd hq
theorem vals_get : ∀ {xs : List V} {us : List Value}, xs.length = us.length → (∀ (j : Nat) (v : Value), us[j]? = some v → ∃ x, xs[j]? = some x ∧ RelV x v) → Vals xs us
  | [], [], _, _ => .nil
  | [], _ :: _, h, _ => by simp at h
  | _ :: _, [], h, _ => by simp at h
  | x :: xs, u :: us, h, q => by
    obtain ⟨y, e, r⟩ := q 0 u rfl
    cases e
    exact .cons r (vals_get (by simpa using h) fun j v hj => by simpa using q (j + 1) v (by simpa using hj))
/-- what is collected of a dict -/
theorem raw_vals {P : Program} {w : World} {od : Obj} {ks : List D} {kv vv : List V} {es : Array DictEntry} {ep : Nat} (h : DkO P w od ks kv vv) (he : od.data = .dict es ep) {acc : Array Value} (ia : ItemsOf (fun i v => ∃ hi : i < es.size, v = es[i].key) acc es.size) :
    es.size = ks.length ∧ Vals kv acc.toList := by
  obtain ⟨es', ep', _, e2, e3, e4⟩ := h.raw
  rw [he] at e2
  cases e2
  have hl := h.lens
  have h1 : acc.toList.length = es.size := by rw [Array.length_toList]; exact ia.1
  refine ⟨e3, vals_get (by omega) fun j v hj => ?_⟩
  obtain ⟨hi, rfl⟩ := ia.2 j v (by rw [← Array.getElem?_toList]; exact hj)
  have hlt : j < kv.length := by omega
  obtain ⟨en, h1, h2⟩ := e4 j _ (List.getElem?_eq_getElem hlt)
  refine ⟨_, List.getElem?_eq_getElem hlt, ?_⟩
  rw [Array.getElem?_eq_getElem hi] at h1
  cases h1
  exact h2
abbrev DTy (H : Hp) (x : V) : Prop := ∃ a od, x = .ref a ∧ H a = some (ob a od) ∧ od.ExactDict
theorem dty_is {pins : List (Addr × Obj)} {σ : L2.St} {H : Hp} {s : Shared} {x : V} {v : Value} (I : Inv X pins σ H s) (r : RelV x v) (ty : DTy H x) : s.TypeIs v "dict" ∧ ∀ a, v = .ref a → ∃ ob, s.heap.get? a = some ob ∧ ob.dict = none := by
  obtain ⟨a, od, rfl, h, ex⟩ := ty
  obtain rfl : v = .ref a := r
  have g : s.heap.get? a = some od := (I.hok a _ h).1.1
  exact ⟨⟨od, g, ex.1⟩, fun b e => by cases e; exact ⟨od, g, ex.2.1⟩⟩
def tBD (r : V → List V → Hp → VK → Prop) (to : TE) (t : TA) : TE := fun σ H Q => to σ H fun x H1 => DTy H1 x ∧ t σ H1 fun xs H2 => r x xs H2 Q
variable {o e : Expr} {es : List Expr} {to : TE} {t : TA} {name : Str} {apos cpos : Pos} {id : String} {r : V → List V → Hp → VK → Prop}
theorem pe_bd (slot : PySem.Slot "dict" name id) (hty : typeOf (.builtin id) = pure (.type "method_descriptor")) (hm : MtR X id r) (ho : PE X o to) (ha : PA X (e :: es) t)
    (hbase : attributeBase o name X.env (eval o X.env) = eval o X.env := by rfl)
    (hfew : ((backTo cpos (starEach (e :: es) X.env)).all (fun x => !x.1) && (backToKw cpos (keywordEach [] X.env)).all (fun x => x.1.isSome)
      && decide ((e :: es).length + ([] : List Keyword).length + (if ([] : List Keyword).isEmpty then 0 else 1) < 30)) = true := by rfl)
    (hline : (apos.endLine == cpos.line) = true := by rfl) (hs : starEach (e :: es) X.env = (false, eval e X.env) :: starEach es X.env := by rfl) (hplain : (backTo cpos (starEach es X.env)).any (·.1) = false := by rfl) :
    PE X (.Call (.Attribute o name apos) (e :: es) [] cpos) (tBD r to t) := by
  refine ⟨fun pins s σ H Q I h => ?_⟩
  refine wpAny_Call_method_late hbase hfew hline rfl (thn (ho.run pins s σ H _ I h) fun v s1 ⟨x, H1, I1, r1, ty, q1⟩ => ?_)
  obtain ⟨h1, h2⟩ := dty_is I1 r1 ty
  refine ⟨"dict", id, PySem.F.plainAttrs_dict, slot, hty, h1, h2, ?_⟩
  have hA := ha.run cpos pins s1 σ H1 _ I1 q1
  rw [hs] at hA ⊢
  refine Calls.callWith_builtin (by show (false || (backTo cpos (starEach es X.env)).any (·.1)) = false; rw [hplain] <;> rfl) (Calls.evalArgs_plain ?_)
  exact thn hA fun us s2 ⟨vs, H2, I2, r2, q2⟩ => hm pins s2 σ H2 x vs v us Q I2 r1 r2 q2
end
/-! ### by values -/
section
variable (W : Wd)
def rDGet : R2 := fun x y H Q => ∃ a od ks kv vv k v, x = .ref a ∧ DcA W H a od ks kv vv ∧ KyA W H y k ks ∧ atVv ks vv k = some v ∧ Q v H
def rDIn (neg : Bool) : R2 := fun y x H Q => ∃ a od ks kv vv k, x = .ref a ∧ DcA W H a od ks kv vv ∧ KyA W H y k ks ∧ Q (.bl (neg ^^ decide (k ∈ ks))) H
def tDSet : TSet := fun o i v H Q => ∃ a od ks kv vv k, o = .ref a ∧ DcA W H a od ks kv vv ∧ KyA W H i k ks ∧ ks.length < sizeLine ∧ ∀ od', DkO W.P W.w od' (putKs ks k) (putKv ks k kv i) (putVv ks k vv v) → Q (upd H a (ob a od'))
def rDGetM : V → List V → Hp → VK → Prop := fun x ys H Q => ∃ a od ks kv vv k y, x = .ref a ∧ ys = [y] ∧ DcA W H a od ks kv vv ∧ KyA W H y k ks ∧ Q ((atVv ks vv k).getD .non) H
def rDGetM2 : V → List V → Hp → VK → Prop := fun x ys H Q => ∃ a od ks kv vv k y z, x = .ref a ∧ ys = [y, z] ∧ DcA W H a od ks kv vv ∧ KyA W H y k ks ∧ Q ((atVv ks vv k).getD z) H
def rDPopM : V → List V → Hp → VK → Prop := fun x ys H Q => ∃ a od ks kv vv k y n v, x = .ref a ∧ ys = [y] ∧ DcA W H a od ks kv vv ∧ KyA W H y k ks ∧ posD ks k = some n ∧ vv[n]? = some v ∧
  ∀ od', DkO W.P W.w od' (ks.eraseIdx n) (kv.eraseIdx n) (vv.eraseIdx n) → Q v (upd H a (ob a od'))
def rDLen : List V → Hp → VK → Prop := fun xs H Q => ∃ a od ks kv vv, xs = [.ref a] ∧ DcA W H a od ks kv vv ∧ Q (.int (ks.length : Nat)) H
def rDList : List V → Hp → VK → Prop := fun xs H Q => ∃ a od ks kv vv, xs = [.ref a] ∧ DcA W H a od ks kv vv ∧ ∀ p, H p = none → Q (.ref p) (upd H p (.lst kv))
end
section
variable {X : Cx}
theorem ix_dget (hu : X.A.units + 65 < cLine) : IxR X (rDGet (xd X)) := by
  intro value slice pins s σ H x y v u Q I rx ry h hs
  obtain ⟨a, od, ks, kv, vv, k, v', rfl, d, q, hv, hq⟩ := h
  obtain rfl : v = .ref a := rx
  obtain ⟨w', rw', go⟩ := d_getX (E := X.xe) hu I d q hv ry
  obtain ⟨_, _, ex, _⟩ := d.dk.raw
  exact subscriptTail_builtinR (x := w') ⟨od, (d.get I).1, ex.1⟩ PySem.F.slot_dict_getitem.lookup (go _ fun s' I' => ⟨rfl, _, H, I', rw', hq⟩) hs
theorem op_din (hu : X.A.units + 65 < cLine) : OpR X (compareOp .In) (rDIn (xd X) false) := by
  intro pins s σ H x y v u Q I rx ry h
  obtain ⟨a, od, ks, kv, vv, k, rfl, d, q, hq⟩ := h
  obtain rfl : u = .ref a := ry
  exact d_inX false hu I d q rx fun s' I' => ⟨.bl _, H, I', rfl, hq⟩
theorem op_dnotin (hu : X.A.units + 65 < cLine) : OpR X (compareOp .NotIn) (rDIn (xd X) true) := by
  intro pins s σ H x y v u Q I rx ry h
  obtain ⟨a, od, ks, kv, vv, k, rfl, d, q, hq⟩ := h
  obtain rfl : u = .ref a := ry
  exact d_inX true hu I d q rx fun s' I' => ⟨.bl _, H, I', rfl, hq⟩
theorem set_dict (hu : X.A.units + 65 < cLine) : PSet X (tDSet (xd X)) := by
  intro pins s σ H o i v ov iv u Q I ro ri rv h
  obtain ⟨a, od, ks, kv, vv, k, rfl, d, q, hl, hq⟩ := h
  obtain rfl : ov = .ref a := ro
  exact d_setX hu I d q hl ri rv fun od' s' dk I' => ⟨_, I', hq od' dk⟩
theorem mt_dget (hu : X.A.units + 65 < cLine) : MtR X "dict.get" (rDGetM (xd X)) := by
  intro pins s σ H x xs v us Q I rx rs h
  obtain ⟨a, od, ks, kv, vv, k, y, rfl, rfl, d, q, hq⟩ := h
  obtain rfl : v = .ref a := rx
  obtain ⟨u, rfl, ry⟩ := Vals.one rs
  exact d_getM hu I d q ry fun w' s' I' r => ⟨_, H, I', r, hq⟩
theorem mt_dget2 (hu : X.A.units + 65 < cLine) : MtR X "dict.get" (rDGetM2 (xd X)) := by
  intro pins s σ H x xs v us Q I rx rs h
  obtain ⟨a, od, ks, kv, vv, k, y, z, rfl, rfl, d, q, hq⟩ := h
  obtain rfl : v = .ref a := rx
  obtain ⟨u, u2, rfl, ry, rz⟩ := Vals.two rs
  exact d_getM2 hu I d q ry rz fun w' s' I' r => ⟨_, H, I', r, hq⟩
theorem mt_dpop (hu : X.A.units + 65 < cLine) : MtR X "dict.pop" (rDPopM (xd X)) := by
  intro pins s σ H x xs v us Q I rx rs h
  obtain ⟨a, od, ks, kv, vv, k, y, n, z, rfl, rfl, d, q, hn, hv, hq⟩ := h
  obtain rfl : v = .ref a := rx
  obtain ⟨u, rfl, ry⟩ := Vals.one rs
  exact d_popX (.inl rfl) hu I d q hn hv ry fun w' od' s' r dk I' => ⟨_, _, I', r, hq od' dk⟩
theorem call_dlen : CallR X (.builtin "len") (rDLen (xd X)) := by
  intro pins s σ H xs us Q I r h
  obtain ⟨a, od, ks, kv, vv, rfl, d, hq⟩ := h
  obtain ⟨u, rfl, rx⟩ := vals1 r
  obtain rfl : u = .ref a := rx
  obtain ⟨g, gs⟩ := d.get I
  have hl := d.dk.lens
  have hs := sizeLine_eq
  rcases d.dk.sort with hk | hk
  · obtain ⟨vs, dd, hz, _⟩ := val_open g hk (κ := .inl 0) (kV (.inl 0))
    have e : vs.length = ks.length := by
      obtain ⟨kvs, es, ep, vs', ⟨h1, h2, h3, h4, h5⟩, hkv, _, e1, _, _⟩ := hk
      obtain ⟨o, es2, ep2, g2, _, d2, _, p2, _⟩ := dd
      rw [g] at g2
      cases g2
      rw [h2] at d2
      cases d2
      have := h4.length
      have := p2.length
      rw [e1, List.length_map, hkv.length]
      omega
    refine call_len_dict gs dd (by omega) ?_
    rw [e]
    exact ⟨.int _, H, I.tok _, ⟨_, rfl⟩, hq⟩
  · obtain ⟨xs', us', es, ep, ⟨h1, h2, h3, h4⟩, hp, hz, hx, hkk, rfl, rfl⟩ := id hk
    by_cases h0 : ks = []
    · subst h0
      obtain ⟨vs, dd, hz', _⟩ := val_open g hk.nil (κ := .inl 0) (kV (.inl 0))
      have e : vs.length = 0 := by
        obtain ⟨o, es2, ep2, g2, _, d2, _, p2, _⟩ := dd
        rw [g] at g2
        cases g2
        rw [h2] at d2
        cases d2
        have := p2.length
        have l := congrArg List.length h3
        rw [List.length_map, ← Paired.length hp] at l
        have l2 := congrArg List.length hx
        rw [List.length_map, nks_len] at l2
        have l3 : xs'.length = 0 := l2
        omega
      refine call_len_dict gs dd (by omega) ?_
      rw [e]
      exact ⟨.int _, H, I.tok _, ⟨_, rfl⟩, hq⟩
    · obtain ⟨k, hk0⟩ := List.exists_mem_of_ne_nil _ h0
      obtain ⟨us, dd, hz', _⟩ := tup_open (W := xd X) g hk I.hok I.kIn d.fk (hkk k hk0) 0
      have e : us.length = ks.length := by
        obtain ⟨o, es2, ep2, g2, _, d2, e2, _, _⟩ := dd
        rw [g] at g2
        cases g2
        rw [h2] at d2
        cases d2
        have l := congrArg List.length (h3.symm.trans e2)
        rw [List.length_map, List.length_map, ← Paired.length hp] at l
        have l2 := congrArg List.length hx
        rw [List.length_map, nks_len] at l2
        omega
      refine call_len_dictH gs dd (by omega) ?_
      rw [e]
      exact ⟨.int _, H, I.tok _, ⟨_, rfl⟩, hq⟩
theorem call_dlist (hc : X.calm = true) : CallR X (.type "list") (rDList (xd X)) := by
  intro pins s σ H xs us Q I r h
  obtain ⟨a, od, ks, kv, vv, rfl, d, hq⟩ := h
  obtain ⟨u, rfl, rx⟩ := vals1 r
  obtain rfl : u = .ref a := rx
  obtain ⟨g, gs⟩ := d.get I
  obtain ⟨es, ep, ex, hd, hsz, _⟩ := d.dk.raw
  have hl := d.dk.lens
  refine PySem.W.kdl_call (kdl_raw gs (es := es) (ep := ep)) (I.ok.hd hc) ⟨od, g, ex, hd⟩ (by omega) fun h' tk acc c' hk hD hacc => ?_
  obtain ⟨_, hv⟩ := raw_vals d.dk hd hacc
  exact ⟨.ref s.heap.objs.size, upd H s.heap.objs.size (.lst kv), I.laid (t' := tk) hk (Nat.le_refl _) (show ObjOk X.prog X.w _ _ _ (.lst kv) from ⟨by omega, acc.toList, c', hv, by rw [Array.toArray_toList]; exact hD⟩), rfl, hq _ (I.hok.fresh (Nat.le_refl _))⟩
/-- {} -/
def tDNewO (W : Wd) : TE := fun σ H Q => ∀ p od, H p = none → DkO W.P W.w od [] [] [] → Q (.ref p) (upd H p (ob p od))
theorem pe_dnewO {pos : Pos} : PE X (.Dict [] [] pos) (tDNewO (xd X)) := ⟨fun pins s σ H Q I h => by
  have hm : (s.heap.objs.size == sysModules) = false := beq_eq_false_iff_ne.mpr (Nat.ne_of_gt I.big)
  refine wpAny_Dict_empty ⟨.ref s.heap.objs.size, _, I.laid (a := s.heap.objs.size) (o := ob s.heap.objs.size { cls := .type "dict", data := .dict #[] }) (t' := s.toks) (fun _ _ q => Heap.get?_push_of_some _ q) (Nat.le_refl _) (ob_ok (Heap.get?_push_size _ rfl) hm), rfl, h _ _ (I.hok.fresh (Nat.le_refl _)) ?_⟩
  exact DkO.val (kvs := []) (es := #[]) (ep := 0) (vs := []) ⟨rfl, rfl, rfl⟩ rfl (fun e he => by simp at he) .nil List.nodup_nil .nil (Nat.zero_le _)⟩
/-! ### for k in d -/
def Itq (W : Wd) (d : Addr) (od : Obj) (kv : List V) : It :=
  ⟨fun i H => H d = some (ob d od) ∧ i < kv.length, fun i H x H' => H' = H ∧ kv[i]? = some x, fun i H => H d = some (ob d od) ∧ kv.length ≤ i⟩
theorem turn_keysO {P : Program} {w : World} {K : PySem.W.Frag} {tg : Expr} {d : Addr} {od : Obj} {es : Array DictEntry} {ep : Nat} {ks : List D} {kv vv : List V} (it : Addr) (W : Wd) (hod : od.data = .dict es ep) (hk : DkO P w od ks kv vv) :
    Turn P w K tg (Itq W d od kv) [it] it (fun i h => h.IsKeyIter it d i kv.length ep) where
  mem := by simp
  obj := fun i h st b hb => by
    have e : b = it := by simpa using hb
    subst e
    obtain ⟨oi, e, c, dd⟩ := st
    exact ⟨oi, e, fun v z => by rw [dd] at z; cases z⟩
  keep := fun i h h' st k => st.at fun oi e => k it (by simp) oi e
  item := by
    intro X hP hw hK hc i pins s σ H E I hf st hg
    subst hP hw hK
    obtain ⟨hd, hi⟩ := hg
    obtain ⟨f0, f1, f2, f3, f4, f5⟩ := hf it (by simp)
    have g : s.heap.get? d = some od := (I.hok d _ hd).1.1
    obtain ⟨es', ep', _, e2, e3, e4⟩ := hk.raw
    rw [hod] at e2
    cases e2
    have hl := hk.lens
    obtain ⟨en, hen, hkey⟩ := e4 i _ (List.getElem?_eq_getElem hi)
    refine next_key_item st g hod (by omega) hen fun h' st' sb => ?_
    have I1 : Inv X pins σ H { s with heap := h' } := I.turned (t' := s.toks) (fun b ob hb e => (sb.2 b hb).trans e) f0 f1 f3 f4 f5
    obtain ⟨oi, e, c, dd⟩ := id st'
    exact ⟨en.key, rfl, go_of (s := { s with heap := h' }) e c dd (by decide) ⟨_, H, I1, hkey, ⟨rfl, List.getElem?_eq_getElem hi⟩, st', fun b hb => (hf b hb).1⟩⟩
  done := by
    intro X hP hw hK hc i pins s σ H E I hf st hg
    subst hP hw hK
    obtain ⟨hd, hi⟩ := hg
    obtain ⟨f0, f1, f2, f3, f4, f5⟩ := hf it (by simp)
    have g : s.heap.get? d = some od := (I.hok d _ hd).1.1
    obtain ⟨es', ep', _, e2, e3, e4⟩ := hk.raw
    rw [hod] at e2
    cases e2
    have hl := hk.lens
    exact next_key_end (I.ok.hd hc) st g hod (by omega) hi fun h' eb => ⟨rfl, I.turned (t' := s.toks) (fun b ob hb e => eb b ob hb e) f0 f1 f3 f4 f5⟩
  self := fun A i s Q E st h => by
    refine wpAny_pyIter_slot st.typeIs PySem.F.slot_dict_keyiterator_iter (wpAny_call_entry PySem.F.slot_dict_keyiterator_iter st.typeIs PySem.F.entry_dict_keyiterator_iter ?_ (PySem.F.args_dict_keyiterator_iter_1 _))
    show wpAny _ _ (ret (.ref it)) _ _ s
    exact wpAny_pure ⟨_, rfl, "dict_keyiterator", _, st.typeIs, PySem.F.slot_dict_keyiterator_next.lookup, h⟩
def iKeysO (W : Wd) (td : TE) : TI := fun σ H R => td σ H fun x H1 => ∃ d od ks kv vv, x = .ref d ∧ DcA W H1 d od ks kv vv ∧ R (Itq W d od kv) H1
theorem pi_keysO {tg e : Expr} {td : TE} (he : PE X e td) : PI X tg e (iKeysO (xd X) td) := by
  refine ⟨fun pins s σ H R I h => ?_⟩
  refine thn (he.run pins s σ H _ I h) fun u s1 ⟨x, H1, I1, rx, d, od, ks, kv, vv, ex, dc, q⟩ => ?_
  subst ex
  obtain rfl : u = Value.ref d := rx
  obtain ⟨g, gs⟩ := dc.get I1
  obtain ⟨es, ep, exd, hd, hsz, _⟩ := dc.dk.raw
  have hl := dc.dk.lens
  refine iter_keys gs g exd hd (pi_one (tk := s1.toks) I1 _ (turn_keysO _ (xd X) hd dc.dk) ⟨_, Heap.get?_push_size _ rfl, rfl, ?_⟩ q)
  rw [show es.size = kv.length by omega] <;> rfl
end
end Pu

set_option Elab.async false
set_option linter.all false
set_option maxRecDepth 100000
namespace Pu
open PySem PySem.Spec PyProof.Rows L2
/-! ### order of data -/
theorem pys_map : ∀ ds : List D, D.pys ds = ds.map D.py
  | [] => rfl
  | d :: ds => by simp [D.pys, pys_map ds]
/-- what can be sorted -/
structure SrtOk (ds : List D) : Prop where
  pl : D.pls 60 ds = true
  nb : D.nbs ds = true
  al : PySem.W.AllAlike (D.pys ds)
  so : PySem.W.Sortable (D.pys ds)
  sz : ds.length ≤ sizeLine
def leD (x y : D) : Bool := !D.ltD y x
def sortD (ds : List D) : List D := ds.mergeSort leD
theorem ltD_irrefl (x : D) : D.ltD x x = false := PyProof.Rows.lex_irrefl _
theorem ltD_trans {x y z : D} (h1 : D.ltD x y = true) (h2 : D.ltD y z = true) : D.ltD x z = true := PyProof.Rows.lex_trans _ _ _ h1 h2
theorem ltD_asym {x y : D} (h1 : D.ltD x y = true) : D.ltD y x = false := by
  cases h : D.ltD y x with
  | false => rfl
  | true => have := ltD_trans h1 h; rw [ltD_irrefl] at this; cases this
theorem ltD_toks {x y : D} (h1 : D.ltD x y = false) (h2 : D.ltD y x = false) : PySem.W.keyToks x.py = PySem.W.keyToks y.py := PyProof.Rows.lex_total _ _ h1 h2
theorem ltD_total {n m : Nat} {x y : D} (px : D.pl n x = true) (py : D.pl m y = true) (nx : D.nb x = true) (ny : D.nb y = true) (al : PySem.W.alike x.py y.py = true) (h1 : D.ltD x y = false) (h2 : D.ltD y x = false) : x = y := by
  have e := D.eqv_dec n m x y px py (D.nm_nb x y nx ny)
  cases q : PyData.eqv x.py y.py with
  | true => rw [q] at e; exact of_decide_eq_true e.symm
  | false =>
    exfalso
    obtain ⟨_, b⟩ := PySem.W.toks_eqv x.py y.py al
    have t := ltD_toks h1 h2
    have z := b q [] []
    have z2 : PyProof.Rows.lexLt itemOrd (PySem.W.keyToks x.py ++ []) (PySem.W.keyToks y.py ++ []) = PyProof.Rows.lexLt itemOrd (PySem.W.keyToks x.py ++ [.inl 0]) (PySem.W.keyToks y.py ++ [.inl 1]) := (b q [] []).trans (b q [.inl 0] [.inl 1]).symm
    have z3 : PyProof.Rows.lexLt itemOrd (PySem.W.keyToks x.py ++ []) (PySem.W.keyToks y.py ++ []) = PyProof.Rows.lexLt itemOrd (PySem.W.keyToks x.py ++ [.inl 1]) (PySem.W.keyToks y.py ++ [.inl 0]) := (b q [] []).trans (b q [.inl 1] [.inl 0]).symm
    rw [t] at z2 z3
    rw [PySem.W.lex_pre, PySem.W.lex_pre] at z2 z3
    rw [z2] at z3
    exact absurd z3 (by decide)
theorem leD_trans (x y z : D) (h1 : leD x y = true) (h2 : leD y z = true) : leD x z = true := by
  unfold leD at *
  simp only [Bool.not_eq_true'] at *
  cases h : D.ltD z x with
  | false => rfl
  | true =>
    exfalso
    rcases hb : D.ltD x y with _ | _
    · have e := ltD_toks hb h1
      have : D.ltD z y = D.ltD z x := by unfold D.ltD PySem.W.dataLt; rw [e]
      rw [this, h] at h2
      cases h2
    · have := ltD_trans h hb
      rw [h2] at this
      cases this
theorem leD_total (x y : D) : (leD x y || leD y x) = true := by
  unfold leD
  cases h : D.ltD y x with
  | false => rfl
  | true => rw [ltD_asym h]; rfl
theorem sortD_perm (ds : List D) : (sortD ds).Perm ds := List.mergeSort_perm ds leD
theorem sortD_sorted (ds : List D) : (sortD ds).Pairwise fun x y => leD x y = true := List.pairwise_mergeSort leD_trans leD_total ds
theorem sortD_mem {ds : List D} {d : D} : d ∈ sortD ds ↔ d ∈ ds := (sortD_perm ds).mem_iff
theorem sortD_length (ds : List D) : (sortD ds).length = ds.length := (sortD_perm ds).length_eq
/-- an order that never has two alike -/
theorem sortD_eq {ds es : List D} (hp : es.Perm ds) (hs : es.Pairwise fun x y => D.ltD x y = true) : sortD ds = es := by
  have h1 : es.Pairwise fun x y => leD x y = true := hs.imp fun h => by unfold leD; rw [ltD_asym h]; rfl
  have h2 : ((sortD ds).Perm es) := (sortD_perm ds).trans hp.symm
  refine h2.eq_of_pairwise (le := fun x y => leD x y = true) (fun a b ha hb h3 h4 => ?_) (sortD_sorted ds) h1
  have ha' : a ∈ es := h2.mem_iff.mp ha
  unfold leD at h3 h4
  simp only [Bool.not_eq_true'] at h3 h4
  obtain ⟨i, hi, rfl⟩ := List.mem_iff_getElem.mp ha'
  obtain ⟨j, hj, rfl⟩ := List.mem_iff_getElem.mp hb
  rcases Nat.lt_trichotomy i j with h | h | h
  · have := List.pairwise_iff_getElem.mp hs i j hi hj h
    rw [h4] at this; cases this
  · subst h; rfl
  · have := List.pairwise_iff_getElem.mp hs j i hj hi h
    rw [h3] at this; cases this
/-! ### sorted, min, max -/
section
variable {X : Cx}
abbrev RVD : Value → V × D → Prop := fun u b => RelV b.1 u
theorem each_zip {W : Wd} {G : Hp} : ∀ {vs : List V} {ds : List D} {us : List Value}, FRs W G vs ds → Vals vs us → PySem.W.EachIs RVD us (vs.zip ds)
  | _, _, _, .nil, .nil => .nil
  | _, _, _, .cons _ t, .cons r rs => .cons r (each_zip t rs)
theorem each_reads {H : Hp} {pins : List (Addr × Obj)} {σ : L2.St} {s : Shared} (I : Inv X pins σ H s) : ∀ {vs : List V} {ds : List D} {us : List Value} {n : Nat}, FRs (xd X) H vs ds → D.pls n ds = true → Vals vs us → PySem.W.EachIs (fun v (b : V × D) => ∃ as, Reads s.heap v b.2.py as) us (vs.zip ds)
  | _, _, _, _, .nil, _, .nil => .nil
  | _, _, _, n, @FRs.cons _ _ _ _ d ds f t, q, .cons r rs => by
    have q' := Bool.and_eq_true_iff.mp (by simpa [D.pls] using q)
    exact .cons (Dp.reads I _ _ _ (D.dp f q'.1) r) (each_reads I t q'.2 rs)
theorem zip_snd {W : Wd} {G : Hp} : ∀ {vs : List V} {ds : List D}, FRs W G vs ds → (vs.zip ds).map (fun b => b.2.py) = D.pys ds ∧ (vs.zip ds).map (·.2) = ds ∧ (∀ b ∈ vs.zip ds, FR W G b.1 b.2)
  | _, _, .nil => ⟨rfl, rfl, by simp⟩
  | _, _, .cons f t => by
    obtain ⟨a, b, c⟩ := zip_snd t
    refine ⟨by simp [D.pys, a], by simp [b], fun x hx => ?_⟩
    rw [List.zip_cons_cons, List.mem_cons] at hx
    rcases hx with rfl | hx
    · exact f
    · exact c x hx
theorem each_vals : ∀ {us : List Value} {bs : List (V × D)}, PySem.W.EachIs RVD us bs → Vals (bs.map (·.1)) us
  | _, _, .nil => .nil
  | _, _, .cons r t => .cons r (each_vals t)
theorem frs_of_bs {W : Wd} {G : Hp} : ∀ {bs : List (V × D)}, (∀ b ∈ bs, FR W G b.1 b.2) → FRs W G (bs.map (·.1)) (bs.map (·.2))
  | [], _ => .nil
  | b :: bs, h => .cons (h b (by simp)) (frs_of_bs fun c hc => h c (by simp [hc]))
theorem sorted_bs {W : Wd} {G : Hp} {vs : List V} {ds : List D} (f : FRs W G vs ds) :
    (((vs.zip ds).mergeSort (PySem.W.dataLe false fun b => b.2.py)).map (·.2)) = sortD ds ∧ FRs W G (((vs.zip ds).mergeSort (PySem.W.dataLe false fun b => b.2.py)).map (·.1)) (sortD ds) := by
  obtain ⟨_, e2, e3⟩ := zip_snd f
  have e : (((vs.zip ds).mergeSort (PySem.W.dataLe false fun b => b.2.py)).map (·.2)) = sortD ds := by
    rw [List.map_mergeSort (s := leD) (fun a _ b _ => by rw [PySem.W.dataLe_eq]; rfl), e2]
    rfl
  refine ⟨e, ?_⟩
  have := frs_of_bs (W := W) (G := G) (bs := (vs.zip ds).mergeSort (PySem.W.dataLe false fun b => b.2.py)) fun b hb => e3 b ((List.mergeSort_perm _ _).mem_iff.mp hb)
  rw [e] at this
  exact this
def rSort (W : Wd) : List V → Hp → VK → Prop := fun xs H Q => ∃ a vs ds, xs = [.ref a] ∧ (SqL W.K H a vs ∨ ∃ od ks vv, DcA W H a od ks vs vv) ∧ FRs W H vs ds ∧ SrtOk ds ∧ ∀ p zs, H p = none → (∀ G, FRs W G vs ds → FRs W G zs (sortD ds)) → Q (.ref p) (upd H p (.lst zs))
theorem depth_le {n : Nat} {ds : List D} (h : D.pls n ds = true) : ∀ d ∈ ds, d.py.depth ≤ n := fun d hd => (D.lay n d (pls_all.mp h d hd)).2
theorem call_sortO (hc : X.calm = true) (hu : X.A.units + 65 < cLine) : CallR X (.builtin "sorted") (rSort (xd X)) := by
  intro pins s σ H xs us Q I r h
  obtain ⟨a, vs, ds, rfl, hd, f, so, hq⟩ := h
  obtain ⟨u, rfl, rx⟩ := vals1 r
  obtain rfl : u = .ref a := rx
  have lvd := f.length
  have sz := so.sz
  obtain ⟨z1, z2, z3⟩ := zip_snd f
  have lz : (vs.zip ds).length = ds.length := by rw [← z2, List.length_map, z2]
  have hal : PySem.W.AllAlike ((vs.zip ds).map fun b => b.2.py) := by rw [z1]; exact so.al
  have hk : PySem.W.Sortable ((vs.zip ds).map fun b => b.2.py) := by rw [z1]; exact so.so
  obtain ⟨sb, sf⟩ := sorted_bs f
  rcases hd with hd | ⟨od, ks, vv, d⟩
  · obtain ⟨its, rv, pl, hz⟩ := I.list hd
    have hl : s.heap.IsList a its.toArray := pl.isList
    refine PySem.W.sorted_data (R := RVD) (enc := fun b => b.2.py) (bs := vs.zip ds) (vs := its) hl (each_zip f rv) (each_reads I f so.pl rv) hal hk (by omega) (fun b hb => ?_) fun out hlo eo => ?_
    · have hm : b.2 ∈ ds := by rw [← z2]; exact List.mem_map.mpr ⟨b, hb, rfl⟩
      have := depth_le so.pl b.2 hm
      omega
    · have vo := each_vals eo
      obtain ⟨e, he⟩ := sortedAll_at s.heap its out.toArray
      have lo : out.length ≤ sizeLine := by rw [hlo, lz]; exact sz
      have lm : ((vs.zip ds).mergeSort (PySem.W.dataLe false fun b => b.2.py)).length = ds.length := by rw [List.length_mergeSort, lz]
      refine ⟨.ref (s.heap.objs.size + 1), upd H (s.heap.objs.size + 1) (.lst _), I.laid (t' := s.toks) (fun b u e => sortedAll_old e) (Nat.le_succ _) (show ObjOk X.prog X.w _ _ _ (.lst _) from ⟨?_, out, e, vo, he⟩), rfl, hq _ _ (I.hok.fresh (Nat.le_succ _)) fun G fg => (sorted_bs fg).2⟩
      rw [List.length_map, lm]; exact sz
  · obtain ⟨g, gs⟩ := d.get I
    obtain ⟨es, ep, ex, hdt, hsz, _⟩ := d.dk.raw
    have hl := d.dk.lens
    refine Calls.call_function_entry PyProof.Rows.kind_sorted PyProof.Rows.plain_sorted PyProof.Rows.entry_sorted (PyProof.Rows.args_sorted1 _) ?_
    unfold Builtin.«sorted»
    refine wpAny_bind (m := checkCount "sorted" 1 1 _) (wpAny_pure ?_)
    refine wpAny_bind (PySem.W.kdu_collect (A := X.A.in1) (kdl_raw gs (es := es) (ep := ep)) (I.ok.hd hc) ⟨od, g, ex, hdt⟩ (by omega) fun h' tk acc hk' hacc => ?_)
    obtain ⟨_, hv⟩ := raw_vals d.dk hdt hacc
    have hal' : acc.toList.length = vs.length := hv.length.symm
    have I1 : Inv X pins σ H { s with heap := h', toks := tk } := I.kept hk'
    refine wpAny_bind (wpAny_newList ?_ (by omega))
    have hoL : (h'.push (seqObj "list" acc.toList.toArray 0)).get? h'.objs.size = some (seqObj "list" acc.toList.toArray 0) := Heap.get?_push_size _ rfl
    show wpAny _ _ _ _ _ { s with heap := h'.push (seqObj "list" acc.toList.toArray 0), toks := tk }
    have I2 : Inv X pins σ H { s with heap := PySem.W.sortingHeap (h'.push (seqObj "list" acc.toList.toArray 0)) h'.objs.size acc.toList, toks := tk } := I1.kept (t' := tk) fun b o e => PySem.W.sortingHeap_old (Nat.ne_of_lt (Heap.lt_size e)) (Heap.get?_push_of_some _ e)
    refine wpAny_bind (wpAny_holding (wpAny_call_entry PyProof.Rows.slot_list_sort ⟨_, hoL, rfl⟩ PyProof.Rows.entry_list_sort
      (PySem.W.list_sort_vals (s := { s with heap := h'.push (seqObj "list" acc.toList.toArray 0), toks := tk }) hoL (PySem.W.SortsAt.data (s := { s with heap := PySem.W.sortingHeap (h'.push (seqObj "list" acc.toList.toArray 0)) h'.objs.size acc.toList, toks := tk }) (PySem.W.each_map (R := fun v d => ∃ as, Reads (PySem.W.sortingHeap (h'.push (seqObj "list" acc.toList.toArray 0)) h'.objs.size acc.toList) v d as) (fun b : V × D => b.2.py) (each_reads I2 f so.pl hv)) hal hk (PySem.W.bound_map fun b hb => ?_)) (by omega) ⟨_, rfl, ?_⟩)
      (PyProof.Rows.args_list_sort _)))
    · have hm : b.2 ∈ ds := by rw [← z2]; exact List.mem_map.mpr ⟨b, hb, rfl⟩
      have := depth_le so.pl b.2 hm
      show X.A.in1.in1.units + _ < _
      rw [Around.in1_units, Around.in1_units]
      omega
    · have eo := PySem.W.sortVals_data (R := RVD) (enc := fun b : V × D => b.2.py) false (each_zip f hv) (each_reads I2 f so.pl hv) hal
      have vo := each_vals eo
      obtain ⟨e', he'⟩ := PyProof.Rows.sortedHeap_at (vs := acc.toList) (out := (PySem.W.sortVals (PySem.W.dataKind (PySem.W.sortingHeap (h'.push (seqObj "list" acc.toList.toArray 0)) h'.objs.size acc.toList) ((vs.zip ds).map fun b => b.2.py)) false acc.toList acc.toList).toArray) hoL
      have lm : ((vs.zip ds).mergeSort (PySem.W.dataLe false fun b => b.2.py)).length = ds.length := by rw [List.length_mergeSort, lz]
      refine wpAny_pure ⟨_, rfl, .ref h'.objs.size, upd H h'.objs.size (.lst _), I1.laid (t' := tk) (fun b u e => ?_) (Nat.le_refl _) (show ObjOk X.prog X.w _ _ _ (.lst _) from ⟨?_, _, e', vo, he'⟩), rfl, hq _ _ (I1.hok.fresh (Nat.le_refl _)) fun G fg => (sorted_bs fg).2⟩
      · have hb : b < h'.objs.size := Heap.lt_size e
        rw [PyProof.Rows.sortedHeap_old (Nat.ne_of_lt hb) (by rw [size_push']; exact Nat.lt_succ_of_lt hb)]
        exact Heap.get?_push_of_some _ e
      · rw [List.length_map, lm]; exact sz
end
end Pu

set_option Elab.async false
set_option linter.all false
set_option maxRecDepth 100000
namespace Pu
open PySem PySem.Spec PyProof.Rows L2
/-! ### {k: v for ..} with keys of any depth -/
section
variable {X : Cx}
theorem d_newX {pins : List (Addr × Obj)} {σ : L2.St} {H : Hp} {s : Shared} {a : Addr} {od : Obj} {ks : List D} {kv vv : List V} {y v : V} {k : D} {u r : Value} {E : Value → Shared → Prop} {Q : Unit → Shared → Prop} (hu : X.A.units + 65 < cLine) (I : Inv X pins σ H s)
    (d : DcA (xd X) H a od ks kv vv) (q : KyA (xd X) H y k ks) (hl : ks.length < sizeLine) (ry : RelV y u) (rv : RelV v r)
    (h : ∀ od' s', DkO X.prog X.w od' (putKs ks k) (putKv ks k kv y) (putVv ks k vv v) → Inv X pins σ (upd H a (ob a od')) s' → Q () s') : wpAny (model X.prog X.w) X.A (dictSet a u r) Q E s := by
  obtain ⟨g, gs⟩ := d.get I
  cases ht : D.isT k with
  | false =>
    obtain ⟨κ, rfl⟩ := kk_v q.kk ht
    have ey := fr_key q.fr
    subst ey
    obtain ⟨vs, dd, hz, rel, st, _⟩ := val_open g (d.dk.asVal ht q.sk) (κ := κ) (kV κ)
    refine wpAny_dictSet_pairs (hsz := hz) (kV_is ry) dd fun h' dd' hs => ?_
    obtain ⟨od', e, dk'⟩ := st h' v r rv hl dd'
    exact h od' _ (dk' rfl) (d_writeX I d e hs)
  | true =>
    obtain ⟨b, rfl, tk⟩ := q.ref ht
    cases (show u = _ from ry)
    obtain ⟨us, dd, hz, rel, st, _⟩ := tup_open (W := xd X) g (d.dk.asTup ht q.sk) I.hok I.kIn d.fk tk b
    refine wpAny_dictSet_heap (hsz := hz) (show (nestedKind X.prog X.w).room X.A from by show X.A.units + 8 < cLine; omega) (q.is tk I) dd fun h' dd' hs => ?_
    obtain ⟨od', e, dk'⟩ := st h' v r rv hl dd'
    exact h od' _ dk' (d_writeX I d e hs)
/-- a turn's end: the pair is put -/
def DcPut (W : Wd) (D : Addr) (N : Hp → Prop) (y z : V) (H : Hp) : Prop := ∃ od ks kv vv k, DcA W H D od ks kv vv ∧ KyA W H y k ks ∧ ks.length < sizeLine ∧ ∀ od', DkO W.P W.w od' (putKs ks k) (putKv ks k kv y) (putVv ks k vv z) → N (upd H D (ob D od'))
def tDcO (W : Wd) (wi : TI) (g : TG) (tt : TT) (tk tv : TE) (vs : List Nat) : TE := fun σ H Q => wi σ H fun J H1 => ∀ D od, H1 D = none → DkO W.P W.w od [] [] [] → ∃ B : Nat → Nat → Hp → Prop, (∃ m, B 0 m (upd H1 D (ob D od))) ∧
  ∀ i m H, B i m H → (J.stop i H ∧ Q (.ref D) H) ∨ (J.go i H ∧ ∃ N : Hp → Prop, (∀ H', N H' → ∃ m', m' < m ∧ B (i + 1) m' H') ∧
    ∀ x H', J.yld i H x H' → g x (L2.wipe σ vs) H' fun σ2 H2 => L2.wipe σ2 vs = L2.wipe σ vs ∧ tt σ2 H2 fun b H3 => if b = true then tk σ2 H3 fun y H4 => tv σ2 H4 fun z H5 => DcPut W D N y z H5 else N H3)
variable {kx vx tg iter : Expr} {ifs : List Expr} {scope : Scope} {own : List (PySem.Str × Nat)} {pos : Pos} {wi : TI} {g : TG} {tt : TT} {tk tv : TE}
abbrev Blk (X : Cx) (scope : Scope) (s : Shared) (H : Hp) (C : Addr) (cl : List (PySem.Str × Addr)) (fp : List Addr) : Cx := X.blk s H scope (compEnvC scope cl C X.env) fp
structure DcR (X : Cx) (kx vx tg : Expr) (ifs : List Expr) (scope : Scope) (g : TG) (tt : TT) (tk tv : TE) : Prop where
  hg : ∀ s H C cl fp, PG (Blk X scope s H C cl fp) tg g
  ht : ∀ s H C cl fp, PTs (Blk X scope s H C cl fp) ifs tt
  hk : ∀ s H C cl fp, PE (Blk X scope s H C cl fp) kx tk
  hv : ∀ s H C cl fp, PE (Blk X scope s H C cl fp) vx tv
theorem dcO_go {pins : List (Addr × Obj)} {s : Shared} {σ : L2.St} {H : Hp} {Q : VK} {cp : Pos} {use : Option (Value → Sem Unit)} {Qf : Value → Shared → Prop} (hu : X.A.units + 65 < cLine)
    (calm : X.calm = true) (nd : X.N.Nodup) (I : Inv X pins σ H s) (hi : PI X tg iter wi) (ok : BlkOk X.N X.env.scope scope own) (R : DcR X kx vx tg ifs scope g tt tk tv) (fold : ∀ x, foldedSetIterable iter X.env x = pure x)
    (h : tDcO (xd X) wi g tt tk tv (own.map (·.2)) σ H Q)
    (out : ∀ D C s' m H', Inv X pins σ H' s' → Q (.ref D) H' → s'.heap.Ns C m → FpOk X pins H' C → compPost (model X.prog X.w) X.A X.xe use Qf (.ref D) C (.ok .next) s') :
    wpAny (model X.prog X.w) X.A (comprehension (.DictComp kx vx [⟨tg, iter, ifs, 0⟩] scope pos) scope X.env cp newDict false (eval iter X.env) use) Qf X.xe s := by
  have fr : ∀ y ∈ scope.names, y.2 = .free → ∃ c, X.env.cells.lookup y.1 = some c := fun y hy e => (ok.free y hy e).elim (fun k => I.ok.has _ (.inl k)) fun k => I.ok.has _ (.inr k)
  refine wpAny_comprehension_free (use := use) rfl fold (closure_ok fr) ok.kind (fun y hy e => by rw [ok.uniq y hy, e]) (thn (hi.run pins s σ H _ I h) fun xv s1 hx => thn hx fun itv s2 h2 => ?_)
  obtain ⟨it, fp, tn, J, H2, rfl, I2, Tn, sa, fa, q⟩ := h2
  refine wpAny_newObj_type (newEnv_comp ?_)
  generalize eD : s2.heap.objs.size = D
  have free2 : H2 D = none := I2.hok.fresh (Nat.le_of_eq eD)
  -- the empty dict
  have nm : (D == sysModules) = false := by rw [← eD]; exact beq_eq_false_iff_ne.mpr (Nat.ne_of_gt I2.big)
  generalize eo : ({ cls := .type "dict", data := .dict #[] } : Obj) = od0
  have dk0 : DkO X.prog X.w od0 [] [] [] := by
    rw [← eo]
    exact DkO.val (kvs := []) (es := #[]) (ep := 0) (vs := []) ⟨rfl, rfl, rfl⟩ rfl (fun e he => by simp at he) .nil List.nodup_nil .nil (Nat.zero_le _)
  obtain ⟨B, ⟨m0, b0⟩, turn⟩ := q D od0 free2 dk0
  generalize e3 : ({ s2 with heap := s2.heap.push od0 } : Shared) = s3
  have hp3 : s3.heap = s2.heap.push od0 := by rw [← e3]
  have gD : s3.heap.get? D = some od0 := by rw [hp3, ← eD]; exact Heap.get?_push_size _ (by rw [← eo]; rfl)
  have kept3 : ∀ b o, s2.heap.get? b = some o → s3.heap.get? b = some o := fun b o e => by rw [hp3]; exact Heap.get?_push_of_some _ e
  have I3 : Inv X pins σ (upd H2 D (ob D od0)) s3 := by
    have := I2.laid (a := D) (o := ob D od0) (h' := s3.heap) (t' := s2.toks) kept3 (Nat.le_of_eq eD) (ob_ok gD nm)
    rw [← e3] at this ⊢
    exact this
  have small : ∀ b ∈ fp, b < s2.heap.objs.size := fun b hb => let ⟨_, e, _⟩ := Tn.obj _ _ sa b hb; Heap.lt_size e
  have f3 : ∀ b ∈ fp, FpOk X pins (upd H2 D (ob D od0)) b ∧ b < s3.heap.objs.size := fun b hb => by
    have lt := small b hb
    refine ⟨⟨?_, (fa b hb).2⟩, by rw [hp3, Heap.size_push]; exact Nat.lt_succ_of_lt lt⟩
    rw [upd_ne (by rw [← eD]; exact Nat.ne_of_lt lt)]
    exact (fa b hb).1
  have sb : tn 0 s3.heap := Tn.keep _ _ _ sa fun b _ o e => kept3 b o e
  have I4 := block_start I3 ok nd f3
  generalize eH : upd H2 D (ob D od0) = H3 at *
  generalize ec : cellsFrom (s3.heap.objs.size + 1) scope.names (cloFrom X.env.cells scope.names []) = cl at *
  have rg := R.hg s3 H3 s3.heap.objs.size cl fp
  have rt := R.ht s3 H3 s3.heap.objs.size cl fp
  have rk := R.hk s3 H3 s3.heap.objs.size cl fp
  have rv := R.hv s3 H3 s3.heap.objs.size cl fp
  have none3 : ∀ b ∈ fp, H3 b = none := fun b hb => (f3 b hb).1.1
  unfold Blk at rg rt rk rv
  show codeAny _ _ (.compStart (.DictComp kx vx [⟨tg, iter, ifs, 0⟩] scope pos) 0 (.ref it) (.ref D) (compEnvC scope cl s3.heap.objs.size X.env)) (compPost (model X.prog X.w) X.A X.xe use Qf (.ref D) s3.heap.objs.size) _
  generalize eC : compEnvC scope cl s3.heap.objs.size X.env = ce at *
  have here : ce.locals = s3.heap.objs.size := by rw [← eC]; rfl
  rw [eo] at I4
  generalize e4 : ({ s3 with heap := pushCells (s3.heap.push od0) scope.names } : Shared) = s4 at I4 ⊢
  have sc : tn 0 s4.heap := Tn.keep _ _ _ sb fun b _ o e => by rw [← e4]; exact pushCells_keeps _ _ _ _ (Heap.get?_push_of_some _ e)
  have foot : ∀ {σ' : L2.St} {H' : Hp} {s' : Shared}, Inv (X.blk s3 H3 scope ce fp) [] σ' H' s' → (∀ b ∈ fp, H' b = none) → ∀ b ∈ fp, FpOk (X.blk s3 H3 scope ce fp) [] H' b := fun {σ' H' s'} J' hn b hb =>
    ⟨hn b hb, (J'.ok.exf b hb).1, J'.ok.exfs b hb, .inl hb, (J'.ok.exf b hb).2, fun p hp => (nomatch (show p ∈ ([] : List (Addr × Obj)) from hp))⟩
  have loop : codeAny (model X.prog X.w) X.A (.compLoop (.DictComp kx vx [⟨tg, iter, ifs, 0⟩] scope pos) 0 (.ref it) (.ref D) ce) (compPost (model X.prog X.w) X.A X.xe use Qf (.ref D) s3.heap.objs.size) s4 := by
    refine compLoop_anyD (fun n s' => ∃ i H', Inv (X.blk s3 H3 scope ce fp) [] (L2.wipe σ (own.map (·.2))) H' s' ∧ tn i s'.heap ∧ (∀ b ∈ fp, H' b = none) ∧ B i n H') ?_ m0 ⟨0, H3, I4, sc, none3, b0⟩
    rintro n s5 ⟨i, H5, I5, st5, n5, b5⟩
    rcases turn i n H5 b5 with ⟨stop, qe⟩ | ⟨go, N, hN, step⟩
    · refine thnF (Tn.done (X.blk s3 H3 scope ce fp) rfl rfl rfl calm i [] s5 _ H5 (fun _ _ => False) I5 (foot I5 n5) st5 stop) fun r s6 ⟨hr, I6⟩ => ?_
      subst hr
      have back : Inv X pins σ H5 s6 := I3.call' (ch := fp) I6.os I6.base I6.hok I6.bare fun b hb => ⟨(f3 b hb).1.2.2.2.1, (f3 b hb).1.2.1, (f3 b hb).1.2.2.2.2.1, (f3 b hb).1.2.2.2.2.2⟩
      have nC : H5 s3.heap.objs.size = none := by rw [← here]; exact I6.free
      obtain ⟨m, hn, _⟩ := I6.loc
      have hn' : s6.heap.Ns ce.locals m := hn
      rw [here] at hn'
      exact out D _ s6 m H5 back qe hn' (I3.fpOk (Nat.le_refl _) nC)
    · refine thnF (Tn.item (X.blk s3 H3 scope ce fp) rfl rfl rfl calm i [] s5 _ H5 (fun _ _ => False) I5 (foot I5 n5) st5 go) fun r s6 ⟨u, hr, h6⟩ => ?_
      subst hr
      refine thnF h6 fun _ s7 ⟨x, H7, I7, r7, y7, st7, n7⟩ => ?_
      have P7 := I7.pinned (foot I7 n7) (Tn.obj _ _ st7)
      refine thnF (rg.run _ s7 _ H7 x u _ P7 r7 (step x H7 y7)) fun _ s8 ⟨σ8, H8, I8, wp8, q8⟩ => ?_
      refine thnF (rt.run _ s8 σ8 H8 _ I8 q8) fun b s9 ⟨H9, I9, q9⟩ => ?_
      have close : ∀ {s' : Shared} {H' : Hp}, Inv (X.blk s3 H3 scope ce fp) ([] ++ pinsAt fp s7.heap) σ8 H' s' → N H' →
          ∃ m, m < n ∧ ∃ i H', Inv (X.blk s3 H3 scope ce fp) [] (L2.wipe σ (own.map (·.2))) H' s' ∧ tn i s'.heap ∧ (∀ b ∈ fp, H' b = none) ∧ B i m H' := fun {s' H'} J' nx => by
        obtain ⟨m', hm, bm⟩ := hN H' nx
        have stays : ∀ b ∈ fp, ∀ o, s7.heap.get? b = some o → s'.heap.get? b = some o ∧ H' b = none := fun b hb o e =>
          let z := J'.pin (b, o) (List.mem_append_right _ (List.mem_append_right _ (mem_pinsAt hb e)))
          ⟨z.1, z.2.1⟩
        have ln : (L2.wipe σ (own.map (·.2))).length = σ8.length := by rw [← wp8, wipe_length]
        refine ⟨m', hm, i + 1, H', (J'.unpinned (pins := [])).weak ln fun j v e => ?_, Tn.keep _ _ _ st7 fun b hb o e => (stays b hb o e).1, fun b hb => ?_, bm⟩
        · rw [← wp8] at e
          exact (wipe_some e).1
        · obtain ⟨o, e, _⟩ := Tn.obj _ _ st7 b hb
          exact (stays b hb o e).2
      cases b with
      | false =>
        simp only [Bool.false_eq_true, if_false] at q9 ⊢
        exact close I9 q9
      | true =>
        simp only [if_true] at q9 ⊢
        refine thnF (rk.run _ s9 σ8 H9 _ I9 q9) fun z s10 ⟨yk, H10, I10, r10, q10⟩ => ?_
        refine thnF (rv.run _ s10 σ8 H10 _ I10 q10) fun z2 s11 ⟨yv, H11, I11, r11, od, ks, kv, vv, k, dc, ky, hl, nx⟩ => ?_
        exact d_newX (X := X.blk s3 H3 scope ce fp) hu I11 dc ky hl r10 r11 fun od' s12 dk' I12 => close I12 (nx od' dk')
  exact codeAny_compStart_dict loop (Tn.self X.A 0 _ _ _ sc loop)
theorem pe_dcO (hu : X.A.units + 65 < cLine) (calm : X.calm = true) (nd : X.N.Nodup) (hi : PI X tg iter wi) (ok : BlkOk X.N X.env.scope scope own) (R : DcR X kx vx tg ifs scope g tt tk tv) (fold : ∀ x, foldedSetIterable iter X.env x = pure x := by intro _; rfl) :
    PE X (.DictComp kx vx [⟨tg, iter, ifs, 0⟩] scope pos) (tDcO (xd X) wi g tt tk tv (own.map (·.2))) := by
  refine ⟨fun pins s σ H Q I h => ?_⟩
  rw [arm_eval_DictComp]
  refine dcO_go hu calm nd I hi ok R fold h fun D C s' m H' I' q hn f => ⟨m, hn, fun h'' sb => ?_⟩
  exact ⟨.ref D, H', I'.turned (t' := s'.toks) (fun b o hb e => (sb.2 b hb).trans e) f.1 f.2.1 f.2.2.2.1 f.2.2.2.2.1 f.2.2.2.2.2, rfl, q⟩
end
end Pu
namespace Pu
open PySem PySem.Spec PyProof.Rows L2
section
variable {X : Cx} {kx vx tg iter : Expr} {ifs : List Expr} {scope : Scope} {own : List (PySem.Str × Nat)} {pos spos py : Pos} {wi : TI} {g : TG} {tt : TT} {tk tv : TE} {i : Nat} {y : PySem.Str}
theorem sw_dict {l : Nat} {env : PySem.Env} (hk : env.scope.kind = .function) (hy : env.scope.names.lookup y = some .local) (hl : (py.line == pos.line) = true) (ha : (scope.names.any fun (n, k) => n == y && (k == .local || k == .cell)) = false) :
    swapsWith (.DictComp kx vx [⟨tg, iter, ifs, 0⟩] scope pos) (some (.Name y py)) l env = pure true := by
  have h1 : env.kindOf y = some .local := hy
  have h2 : env.blockKind = .function := by unfold Env.blockKind; rw [hk]; rfl
  unfold swapsWith
  simp only [h2, h1, ha, Expr.pos, hl]
  rfl
/-- y = {k: v for ..} -/
theorem ps_setDcO (hu : X.A.units + 65 < cLine) (calm : X.calm = true) (nd : X.N.Nodup) (hy : X.N[i]? = some y) (hl : X.env.scope.names.lookup y = some .local) (hsw : swapsWith (.DictComp kx vx [⟨tg, iter, ifs, 0⟩] scope pos) (some (.Name y py)) spos.line X.env = pure true)
    (hi : PI X tg iter wi) (ok : BlkOk X.N X.env.scope scope own) (R : DcR X kx vx tg ifs scope g tt tk tv) (fold : ∀ x, foldedSetIterable iter X.env x = pure x := by intro _; rfl) :
    PS X (.Assign [.Name y py] (.DictComp kx vx [⟨tg, iter, ifs, 0⟩] scope pos) spos) (tAsg (tDcO (xd X) wi g tt tk tv (own.map (·.2))) (gName i)) := by
  refine ⟨fun pins s σ H D I h => ?_⟩
  rw [exec_Assign_Name_used _ _ _ _ hsw]
  refine wpAny_bind (wpAny_standAt (wpAny_bind ?_))
  have h' : tDcO (xd X) wi g tt tk tv (own.map (·.2)) σ H (fun x H1 => gName i x σ H1 D.nx) := h
  refine wpAny_bind (thn (dcO_go (use := some (assign (.Name y py) X.env)) (Qf := fun _ s' => SP X pins D .next s') hu calm nd I hi ok R fold h' fun L C s' m H' I' q hn f => ?_) fun _ s' hq => wpAny_pure (wpAny_pure hq))
  show wpAny _ _ (assign (.Name y py) X.env (.ref L)) _ _ _
  refine wpAny_assign_Name (store_ok2 (v := V.ref L) I' nd hy (.inl hl) rfl (fun s2 I2 ⟨a, sb, ha⟩ => ?_) (.inr hl))
  have ne : C ≠ a := by
    rcases ha with z | z
    · rw [z]; exact f.2.1
    · exact fun e => f.2.2.2.2.1 y a z e.symm
  exact ⟨m, hn.sameBut sb ne, fun h3 sb3 => ⟨_, H', I2.turned (t' := s2.toks) (fun b o hb e => (sb3.2 b hb).trans e) f.1 f.2.1 f.2.2.2.1 f.2.2.2.2.1 f.2.2.2.2.2, q⟩⟩
end
end Pu

set_option Elab.async false
set_option linter.all false
set_option maxRecDepth 100000
namespace Pu
open PySem PySem.Spec L2
section
variable {P : Program} {w : World} {K : PySem.W.Frag}
/-! ### dicts by data -/
theorem atVv_frs {W : Wd} {G : Hp} {ks : List D} {vv : List V} {ds : List D} {k d : D} (f : FRs W G vv ds) (h : atVv ks ds k = some d) : ∃ v, atVv ks vv k = some v ∧ FR W G v d := by
  unfold atVv at h ⊢
  cases q : posD ks k with
  | none => rw [q] at h; cases h
  | some n => rw [q] at h; exact f.get h
theorem atVv_none {W : Wd} {G : Hp} {ks : List D} {vv : List V} {ds : List D} {k : D} (f : FRs W G vv ds) (h : atVv ks ds k = none) : atVv ks vv k = none := by
  unfold atVv at h ⊢
  cases q : posD ks k with
  | none => rfl
  | some n =>
    rw [q] at h
    have l := f.length
    simp only at h ⊢
    rw [List.getElem?_eq_none_iff] at h ⊢
    omega
/-- a key that may be asked of these keys -/
def kOk (ks : List D) (k : D) : Prop := D.kk k = true ∧ sameK k ks = true
theorem dca_of {G H : Hp} (e : Same G H) {a : Addr} {od : Obj} {ks : List D} {kv vv : List V} (h : G a = some (ob a od)) (k : DkO P w od ks kv vv) (f : FRs (wd P w K) G kv ks) : DcA (wd P w K) H a od ks kv vv := ⟨e _ _ h, k, f.mono e⟩
def pIxA : D → D → (D → Prop) → Prop
  | .dct ks vs, k, Q => kOk ks k ∧ ∃ d, atVv ks vs k = some d ∧ Q d
  | x, y, Q => pIx x y Q
def rIxA (W : Wd) : R2 := fun x y H Q => rIx W.K x y H Q ∨ rDGet W x y H Q
theorem pr_ixA : PurR2 (wd P w K) (rIxA (wd P w K)) pIxA := by
  intro G H x y dx dy Q Q' e f1 f2 k h
  unfold pIxA at h
  split at h
  · cases f1 with
    | @dct a od ks ds kv vv ha hk hf hv =>
      obtain ⟨⟨h1, h2⟩, d, hd, q⟩ := h
      obtain ⟨v, hv', fv⟩ := atVv_frs hv hd
      exact .inr ⟨_, od, _, kv, vv, _, v, rfl, dca_of e ha hk hf, ⟨f2.mono e, h1, h2⟩, hv', k _ _ G H (Grow.refl e) fv q⟩
  · exact .inl (pr_ix G H x y dx dy Q Q' e f1 f2 k h)
theorem ix_all {X : Cx} (hu : X.A.units + 65 < cLine) : IxR X (rIxA (xd X)) := ix_seq.or (ix_dget hu)
def pInD (neg : Bool) : D → D → (D → Prop) → Prop
  | k, .dct ks _, Q => kOk ks k ∧ Q (.bl (neg ^^ decide (k ∈ ks)))
  | x, y, Q => pInG neg x y Q
def rInA (W : Wd) : R2 := fun x y H Q => rInU W.K x y H Q ∨ rDIn W false x y H Q
def rNotInA (W : Wd) : R2 := fun x y H Q => rNotInU W.K x y H Q ∨ rDIn W true x y H Q
def pInA := pInD false
def pNotInA := pInD true
theorem din_of {neg : Bool} {G H : Hp} {x y : V} {dx : D} {ks vs : List D} {Q : VK} {Q' : D → Prop} (e : Same G H) (f1 : FR (wd P w K) G x dx) (f2 : FR (wd P w K) G y (.dct ks vs)) (k : ∀ v d G' H', Grow G H G' H' → FR (wd P w K) G' v d → Q' d → Q v H')
    (h : kOk ks dx ∧ Q' (.bl (neg ^^ decide (dx ∈ ks)))) : rDIn (wd P w K) neg x y H Q := by
  cases f2 with
  | @dct a od _ ds kv vv ha hk hf hv => exact ⟨_, od, _, kv, vv, _, rfl, dca_of e ha hk hf, ⟨f1.mono e, h.1.1, h.1.2⟩, k _ _ G H (Grow.refl e) (.bl _) h.2⟩
theorem pr_inA : PurR2 (wd P w K) (rInA (wd P w K)) pInA := by
  intro G H x y dx dy Q Q' e f1 f2 k h
  unfold pInA pInD at h
  split at h
  · exact .inr (din_of e f1 f2 k h)
  · exact .inl (pr_in G H x y dx dy Q Q' e f1 f2 k h)
theorem pr_notinA : PurR2 (wd P w K) (rNotInA (wd P w K)) pNotInA := by
  intro G H x y dx dy Q Q' e f1 f2 k h
  unfold pNotInA pInD at h
  split at h
  · exact .inr (din_of e f1 f2 k h)
  · exact .inl (pr_notin G H x y dx dy Q Q' e f1 f2 k h)
theorem op_inA {X : Cx} (hu : X.A.units + 65 < cLine) : OpR X (compareOp .In) (rInA (xd X)) := (op_inU hu).or (op_din hu)
theorem op_notInA {X : Cx} (hu : X.A.units + 65 < cLine) : OpR X (compareOp .NotIn) (rNotInA (xd X)) := (op_notInU hu).or (op_dnotin hu)
def rLenB (W : Wd) : List V → Hp → VK → Prop := fun xs H Q => (∃ x n, xs = [x] ∧ LenV W.K x H n ∧ Q (.int n) H) ∨ rDLen W xs H Q
theorem call_lenB {X : Cx} : CallR X (.builtin "len") (rLenB (xd X)) := CallR.or call_len call_dlen
def pLenA : D → (D → Prop) → Prop
  | .dct ks _, Q => Q (.int (ks.length : Nat))
  | x, Q => pLen x Q
theorem pc_lenB : PurC (wd P w K) (rLenB (wd P w K)) (p1 pLenA) := pc_1 <| by
  intro G H x d Q Q' e f k h
  unfold pLenA at h
  split at h
  · cases f with
    | @dct a od _ ds kv vv ha hk hf hv => exact .inr ⟨_, od, _, kv, vv, rfl, dca_of e ha hk hf, k _ _ G H (Grow.refl e) (.int _) h⟩
  · exact .inl (pc_len G H [x] [_] Q Q' e (.cons f .nil) k h)
/-! ### fresh lists from looks -/
def PurF (W : Wd) (E : XK) (Xc : XP) (te : TE) (pf : PQA) : Prop :=
  ∀ Γ H σ env (Q : VK) (Q' : List D → Prop), Vw W Γ H σ env → XV W Γ H E Xc → (∀ p vs ds Γ' H', Grow Γ H Γ' H' → H p = none → Γ' p = none → H' p = some (.lst vs) → FRs W Γ' vs ds → Q' ds → Q (.ref p) H') → pf env Q' → te σ H Q
/-- a call that makes a list -/
def PurCF (W : Wd) (r : List V → Hp → VK → Prop) (p : List D → (List D → Prop) → Prop) : Prop :=
  ∀ G H xs ds (Q : VK) (Q' : List D → Prop), Same G H → FRs W G xs ds → (∀ p vs es, H p = none → FRs W G vs es → Q' es → Q (.ref p) (upd H p (.lst vs))) → p ds Q' → r xs H Q
def f1 (p : D → (List D → Prop) → Prop) : List D → (List D → Prop) → Prop := fun ds Q => match ds with
  | [d] => p d Q
  | _ => False
def pSort : D → (List D → Prop) → Prop
  | .lst ds, Q => SrtOk ds ∧ Q (sortD ds)
  | .dct ks _, Q => SrtOk ks ∧ Q (sortD ks)
  | _, _ => False
theorem pcf_sort : PurCF (wd P w K) (rSort (wd P w K)) (f1 pSort) := by
  intro G H xs ds Q Q' e f k h
  unfold f1 at h
  split at h
  · obtain ⟨v, rfl, f1⟩ := frs1 f
    cases f1 with
    | lst ha t => exact ⟨_, _, _, rfl, .inl (SqL.of (e _ _ ha)), t.mono e, h.1, fun p zs hp fz => k p zs _ hp (fz G t) h.2⟩
    | @dct a od ks ds kv vv ha hk hf hv => exact ⟨_, _, _, rfl, .inr ⟨od, _, _, dca_of e ha hk hf⟩, hf.mono e, h.1, fun p zs hp fz => k p zs _ hp (fz G hf) h.2⟩
    | _ => exact h.elim
  · exact h.elim
/-- list(..) -/
def pListF : D → (List D → Prop) → Prop
  | .lst xs, Q => Q xs
  | .tup xs, Q => Q xs
  | .scr ns, Q => Q (ns.map D.int)
  | .str x, Q => x.length ≤ sizeLine ∧ Q (signsD x)
  | .dct ks _, Q => Q ks
  | _, _ => False
def rListB (W : Wd) : List V → Hp → VK → Prop := fun xs H Q => rListU W.K xs H Q ∨ rDList W xs H Q
theorem call_listB {X : Cx} (hc : X.calm = true) : CallR X (.type "list") (rListB (xd X)) := CallR.or (call_listU hc) (call_dlist hc)
theorem pcf_list : PurCF (wd P w K) (rListB (wd P w K)) (f1 pListF) := by
  intro G H xs ds Q Q' e f k h
  unfold f1 at h
  split at h
  · obtain ⟨v, rfl, f1⟩ := frs1 f
    cases f1 with
    | lst hs t => exact .inl (.inl ⟨_, _, rfl, .inl (SqL.of (e _ _ hs)), fun p hp => k p _ _ hp t h⟩)
    | tup hs t => exact .inl (.inl ⟨_, _, rfl, .inr (sqt_mono e hs), fun p hp => k p _ _ hp t h⟩)
    | scr hs => exact .inl (.inl ⟨_, _, rfl, .inl (e.seq hs), fun p hp => k p _ _ hp (frs_ints _) h⟩)
    | str y => exact .inl (.inr ⟨y, rfl, h.1, fun p hp => k p _ _ hp (frs_signs _) h.2⟩)
    | @dct a od ks ds kv vv ha hk hf hv => exact .inr ⟨_, od, _, kv, vv, rfl, dca_of e ha hk hf, fun p hp => k p _ _ hp hf h⟩
    | _ => exact h.elim
  · exact h.elim
section
variable {W : Wd} {E : XK} {Xc : XP} {ta tb tc te : TE} {pa pb pc : PQE} {tt : TT} {pt : PQT} {t : TA} {pq : PQA}
theorem grow_upd {G H G' H' : Hp} {p : Addr} {o : HO} (g : Grow G H G' H') (hp : H' p = none) : Grow G H G' (upd H' p o) :=
  ⟨g.g, g.h.trans (same_upd hp), g.n, g.gh.trans (same_upd hp)⟩
def fCB (p : List D → (List D → Prop) → Prop) (a : PQA) : PQA := fun env Q => a env fun ds => p ds Q
theorem purf_CB {r : List V → Hp → VK → Prop} {p : List D → (List D → Prop) → Prop} (hr : PurCF W r p) (ha : PurQA W E Xc t pq) : PurF W E Xc (tCB r t) (fCB p pq) := by
  intro Γ H σ env Q Q' v x k h
  refine ha Γ H σ env _ _ v x (fun vs ds G1 H1 g1 f1 q1 => ?_) h
  refine hr G1 H1 vs ds _ _ g1.gh f1 (fun p us es hp fe q => ?_) q1
  have np : H p = none := g1.h.free hp
  exact k p us es G1 _ (grow_upd g1 hp) np (g1.gh.free hp) upd_same fe q
def fLst (a : PQA) : PQA := fun env Q => a env fun ds => ds.length ≤ sizeLine ∧ Q ds
theorem purf_lst (ha : PurQA W E Xc t pq) : PurF W E Xc (tLst t) (fLst pq) := by
  intro Γ H σ env Q Q' v x k h
  refine ha Γ H σ env _ _ v x (fun vs ds G1 H1 g1 f1 q1 => ⟨by rw [f1.length]; exact q1.1, fun p hp => ?_⟩) h
  exact k p vs ds G1 _ (grow_upd g1 hp) (g1.h.free hp) (g1.gh.free hp) upd_same f1 q1.2
def qF (pf : PQA) : PQE := fun env Q => pf env fun ds => Q (.lst ds)
theorem purq_f {pf : PQA} (h : PurF W E Xc te pf) : PurQ W E Xc te (qF pf) := by
  intro Γ H σ env Q Q' v x k q
  refine h Γ H σ env _ _ v x (fun p vs ds Γ' H' g hp hg hl f q => ?_) q
  have np : H p = none := hp
  have nG : Γ p = none := by
    cases z : Γ p with
    | none => rfl
    | some o => rw [g.g p o z] at hg; cases hg
  have g2 : Grow Γ H (upd Γ' p (.lst vs)) H' := ⟨fun b o e => by
      by_cases hb : b = p
      · subst hb; rw [nG] at e; cases e
      · rw [upd_ne hb]; exact g.g b o e, g.h, fun b o e => by
      by_cases hb : b = p
      · subst hb; exact .inr np
      · rw [upd_ne hb] at e; exact g.n b o e, fun b o e => by
      by_cases hb : b = p
      · subst hb; rw [upd_same] at e; rw [hl]; exact e
      · rw [upd_ne hb] at e; exact g.gh b o e⟩
  refine k (.ref p) (.lst ds) _ H' g2 (.lst upd_same (f.mono fun b o e => ?_)) q
  by_cases hb : b = p
  · subst hb; rw [hg] at e; cases e
  · rw [upd_ne hb]; exact e
/-- a fresh list, one's own -/
def oF (pf : PQA) : PTO := fun env Q => pf env fun ds => flats ds = true ∧ Q (.own (.lst ds)) env
theorem puro_f {pf : PQA} (h : PurF W E Xc te pf) : PurO W E Xc te (oF pf) := by
  intro Z σ0 H G σ env φ Q Q' e x k q
  refine h _ H σ env _ _ e.vw (x.view e) (fun p vs ds Γ' H' g hp hg hl f q => ?_) q
  obtain ⟨t, r⟩ := e.out g
  have f' := FRs.flat e g f q.1
  have np : ∀ i, kpF (φ i) p = none := fun i => by
    cases z : kpF (φ i) p with
    | none => rfl
    | some o => rw [e.sub i p o (kpF_of z).1] at hp; cases hp
  have nG : outF φ Γ' p = none := by
    cases z : outF φ Γ' p with
    | none => rfl
    | some o => rw [(outF_of z).1] at hg; cases hg
  refine k (.ref p) (.own (.lst ds)) (one p (.lst vs)) H' _ env _ t r ⟨.lst one_same f', fun b => ?_, fun i b => ?_, fun b o hb => ?_, fun b hb => ?_⟩ q.2
  · by_cases h : b = p
    · subst h; exact .inl nG
    · exact .inr (one_ne h)
  · by_cases h : b = p
    · subst h; exact .inl (np i)
    · exact .inr (one_ne h)
  · by_cases h : b = p
    · subst h; rw [one_same] at hb; rw [hl]; exact hb
    · rw [one_ne h] at hb; cases hb
  · by_cases h : b = p
    · subst h; exact e.zn b hp
    · exact absurd (one_ne h) hb
/-! ### walks, looked at -/
def PurQI (W : Wd) (E : XK) (Xc : XP) (wi : TI) (pi : PQA) : Prop :=
  ∀ Γ H σ env (R : It → Hp → Prop) (Q' : List D → Prop), Vw W Γ H σ env → XV W Γ H E Xc →
    (∀ J ds Γ' H', Grow Γ H Γ' H' → (∀ Γ2, Same Γ' Γ2 → IT W Γ2 J ds) → Q' ds → R J H') → pi env Q' → wi σ H R
def qiL (pe : PQE) : PQA := fun env Q => pe env fun d => ∃ ds, lsO d = some ds ∧ Q ds
def qiT (pe : PQE) : PQA := fun env Q => pe env fun d => ∃ ds, tpO d = some ds ∧ Q ds
def qiS (pe : PQE) : PQA := fun env Q => pe env fun d => ∃ x, stO d = some x ∧ Q (signsD x)
def dkO : D → Option (List D)
  | .dct ks _ => some ks
  | _ => none
def qiK (pe : PQE) : PQA := fun env Q => pe env fun d => ∃ ds, dkO d = some ds ∧ Q ds
theorem purqi_list (h : PurQ W E Xc te pa) : PurQI W E Xc (iList W.K te) (qiL pa) := by
  intro Γ H σ env R Q' v x k q
  refine h Γ H σ env _ _ v x (fun u d Γ1 H1 g1 f1 q1 => ?_) q
  obtain ⟨ds0, hl, q1⟩ := q1
  cases f1 with
  | scr hs => cases hl; exact ⟨_, rfl, ⟨_, g1.gh.seq hs⟩, k _ _ Γ1 H1 g1 (fun G2 s => it_list (s.seq hs) (frs_ints _)) q1⟩
  | lst hs t => cases hl; exact ⟨_, rfl, ⟨_, SqL.of (g1.gh _ _ hs)⟩, k _ _ Γ1 H1 g1 (fun G2 s => it_list (SqL.of (s _ _ hs)) (t.mono s)) q1⟩
  | _ => cases hl
theorem purqi_tup (h : PurQ W E Xc te pa) : PurQI W E Xc (iTup W.K te) (qiT pa) := by
  intro Γ H σ env R Q' v x k q
  refine h Γ H σ env _ _ v x (fun u d Γ1 H1 g1 f1 q1 => ?_) q
  obtain ⟨ds0, hl, q1⟩ := q1
  cases f1 with
  | tup hs t => cases hl; exact ⟨_, rfl, ⟨_, sqt_mono g1.gh hs⟩, k _ _ Γ1 H1 g1 (fun G2 s => it_tup (sqt_mono s hs) (t.mono s)) q1⟩
  | _ => cases hl
theorem purqi_str (h : PurQ W E Xc te pa) : PurQI W E Xc (iStr te) (qiS pa) := by
  intro Γ H σ env R Q' v x k q
  refine h Γ H σ env _ _ v x (fun u d Γ1 H1 g1 f1 q1 => ?_) q
  obtain ⟨y, hy, q1⟩ := q1
  cases f1 <;> first | (cases hy; done) | skip
  cases hy
  exact ⟨_, rfl, k _ _ Γ1 H1 g1 (fun G2 s => it_str) q1⟩
def qiR1 (pq : PQA) : PQA := fun env Q => pq env fun ds => match ds with
  | [.int j] => (-(2 ^ 62) ≤ j ∧ j < 2 ^ 62) ∧ Q (rng 0 j.toNat)
  | _ => False
def qiR2 (pq : PQA) : PQA := fun env Q => pq env fun ds => match ds with
  | [.int i, .int j] => (-(2 ^ 62) ≤ i ∧ i < 2 ^ 62 ∧ -(2 ^ 62) ≤ j ∧ j < 2 ^ 62) ∧ Q (rng i (j - i).toNat)
  | _ => False
theorem purqi_r1 (h : PurQA W E Xc t pq) : PurQI W E Xc (iRng1 t) (qiR1 pq) := by
  intro Γ H σ env R Q' v x k q
  refine h Γ H σ env _ _ v x (fun vs ds Γ1 H1 g1 f1 q1 => ?_) q
  match ds, q1 with
  | [.int j], q1 =>
    obtain ⟨v, rfl, f⟩ := frs1 f1
    cases f
    exact ⟨j, rfl, q1.1.1, q1.1.2, k _ _ Γ1 H1 g1 (fun G2 s => it_rng) q1.2⟩
theorem purqi_r2 (h : PurQA W E Xc t pq) : PurQI W E Xc (iRng2 t) (qiR2 pq) := by
  intro Γ H σ env R Q' v x k q
  refine h Γ H σ env _ _ v x (fun vs ds Γ1 H1 g1 f1 q1 => ?_) q
  match ds, q1 with
  | [.int i, .int j], q1 =>
    obtain ⟨v, u, rfl, f, f2⟩ := frs2 f1
    cases f
    cases f2
    exact ⟨i, j, rfl, q1.1, k _ _ Γ1 H1 g1 (fun G2 s => it_rng) q1.2⟩
theorem it_keys {G : Hp} {a : Addr} {od : Obj} {ks : List D} {kv : List V} (h : G a = some (ob a od)) (f : FRs W G kv ks) : IT W G (Itq W a od kv) ks := by
  have l := f.length
  refine ⟨fun i H e hi => ⟨e _ _ h, by omega⟩, fun i H e hi => ⟨e _ _ h, by omega⟩, fun i d H x H' e hd hy => ?_⟩
  obtain ⟨rfl, hx⟩ := hy
  obtain ⟨v, hv, fv⟩ := f.get hd
  rw [hx] at hv
  cases hv
  exact ⟨G, Grow.refl e, fv⟩
end
theorem purqi_keys {E : XK} {Xc : XP} {te : TE} {pa : PQE} (h : PurQ (wd P w K) E Xc te pa) : PurQI (wd P w K) E Xc (iKeysO (wd P w K) te) (qiK pa) := by
  intro Γ H σ env R Q' v x k q
  refine h Γ H σ env _ _ v x (fun u d Γ1 H1 g1 f1 q1 => ?_) q
  obtain ⟨ds0, hl, q1⟩ := q1
  cases f1 with
  | @dct a od ks ds kv vv ha hk hf hv =>
    cases hl
    exact ⟨a, od, _, kv, vv, rfl, dca_of g1.gh ha hk hf, k _ _ Γ1 H1 g1 (fun G2 s => it_keys (s _ _ ha) (hf.mono s)) q1⟩
  | _ => cases hl
def iK (pe : PTE) : PTA := fun env Q => pe env fun d e1 => ∃ ds, dkO d = some ds ∧ Q ds e1
theorem puri_keys {E : XK} {Xc : XP} {te : TE} {pe : PTE} (h : PurE (wd P w K) E Xc te pe) : PurI (wd P w K) E Xc (iKeysO (wd P w K) te) (iK pe) := by
  intro Z σ0 H G σ env φ R Q' e x k q
  refine h Z σ0 H G σ env φ _ _ e x (fun v d H1 G1 e1 p1 t1 r1 f1 q1 => ?_) q
  obtain ⟨ds0, hl, q1⟩ := q1
  cases f1 with
  | @dct a od ks ds kv vv ha hk hf hv =>
    cases hl
    exact ⟨a, od, _, kv, vv, rfl, dca_of r1.gh ha hk hf, k _ _ H1 G1 e1 p1 t1 r1 (fun G2 s => it_keys (s _ _ ha) (hf.mono s)) q1⟩
  | _ => cases hl
/-- any walk, looked at: in a loop or comprehension with effects -/
def iQ (pq : PQA) : PTA := fun env Q => pq env fun ds => flats ds = true ∧ Q ds env
end
end Pu

set_option Elab.async false
set_option linter.all false
set_option maxRecDepth 100000
namespace Pu
open PySem PySem.Spec L2
section
variable {W : Wd} {E : XK} {Xc : XP} {te : TE} {pe : PQE} {tt : TT} {pt : PQT} {g : TG} {p : PTG} {gs : TGs} {ps : PTGs}
/-! ### targets, looked at -/
def PurGQ (W : Wd) (g : TG) (p : PTG) : Prop := ∀ Γ H σ env v d (Q : L2.St → Hp → Prop) (Q' : Env → Prop), Vw W Γ H σ env → FR W Γ v d → (∀ σ' env', Vw W Γ H σ' env' → Q' env' → Q σ' H) → p d env Q' → g v σ H Q
def PurGQs (W : Wd) (g : TGs) (p : PTGs) : Prop := ∀ Γ H σ env vs ds (Q : L2.St → Hp → Prop) (Q' : Env → Prop), Vw W Γ H σ env → FRs W Γ vs ds → (∀ σ' env', Vw W Γ H σ' env' → Q' env' → Q σ' H) → p ds env Q' → g vs σ H Q
theorem purgq_name {i : Nat} : PurGQ W (gName i) (gN i) := by
  intro Γ H σ env v d Q Q' vw f k ⟨hf, q⟩
  refine k _ _ ⟨by simp [vw.len], vw.gh, fun j s hj => ?_⟩ q
  by_cases hji : i = j
  · subst hji
    have hi : i < env.length := by
      unfold free at hf
      cases h : env[i]? with
      | none => rw [h] at hf; exact hf.elim
      | some s => exact (List.getElem?_eq_some_iff.mp h).1
    rw [List.getElem?_set_self hi] at hj
    cases hj
    exact ⟨v, by rw [List.getElem?_set_self (by rw [vw.len]; exact hi)], f⟩
  · rw [List.getElem?_set_ne hji] at hj ⊢
    exact vw.sl j s hj
theorem purgqs_nil : PurGQs W gNil gsNil := by
  intro Γ H σ env vs ds Q Q' vw f k h
  obtain ⟨rfl, h⟩ := h
  cases f
  exact ⟨rfl, k _ _ vw h⟩
theorem purgqs_cons (h1 : PurGQ W g p) (h2 : PurGQs W gs ps) : PurGQs W (gCons g gs) (gsCons p ps) := by
  intro Γ H σ env vs ds Q Q' vw f k h
  cases f with
  | nil => exact h.elim
  | @cons v vs d ds f1 f2 => exact ⟨v, vs, rfl, h1 Γ H σ env v d _ _ vw f1 (fun σ1 e1 vw1 q1 => h2 Γ H σ1 e1 vs ds Q Q' vw1 f2 k q1) h⟩
theorem purgq_tup {n : Nat} (h : PurGQs W gs ps) : PurGQ W (gTup W.K n gs) (gT n ps) := by
  intro Γ H σ env v d Q Q' vw f k q
  cases f with
  | tup hs t => exact ⟨_, _, rfl, sqt_mono vw.gh hs, by rw [t.length]; exact q.1, h Γ H σ env _ _ Q Q' vw t k q.2⟩
  | _ => exact q.elim
theorem Vw.part {Γ H : Hp} {σ σ2 : L2.St} {env env2 : Env} (v : Vw W Γ H σ env) (l1 : σ2.length = σ.length) (l2 : env2.length = env.length) (h : ∀ (i : Nat) s, env2[i]? = some s → s = .nil ∨ (env[i]? = some s ∧ σ2[i]? = σ[i]?)) : Vw W Γ H σ2 env2 :=
  ⟨by rw [l1, l2]; exact v.len, v.gh, fun i s hs => by
    rcases h i s hs with rfl | ⟨h1, h2⟩
    · exact trivial
    · rw [h2]; exact v.sl i s h1⟩
theorem Vw.wipe {Γ H : Hp} {σ : L2.St} {env : Env} (v : Vw W Γ H σ env) (vs : List Nat) : Vw W Γ H (L2.wipe σ vs) (wipeE env vs) :=
  v.part (wipe_length _ _) (wipeE_length _ _) fun i s hs => by
    rcases wipeE_get hs with h | ⟨h1, h2⟩
    · exact .inl h
    · exact .inr ⟨h2, wipe_out h1⟩
def qYes : PQT := fun _ Q => Q true
theorem purqt_yes : PurQT W E Xc tYes qYes := fun Γ H σ env Q Q' v x k q => k true Γ H (Grow.refl v.gh) q
/-! ### comprehensions, looked at -/
def qcompOk (g : PTG) (tt : PQT) (te : PQE) (env : Env) (Q : List D → Prop) (ds : List D) (I : Nat → List D → Prop) : Prop := ∀ i acc, I i acc →
  (∀ d, ds[i]? = some d → g d env fun e1 => tt e1 fun b => if b = true then te e1 fun y => acc.length < sizeLine ∧ I (i + 1) (acc ++ [y]) else I (i + 1) acc) ∧ (i = ds.length → Q acc)
def fLc (pi : PQA) (g : PTG) (tt : PQT) (te : PQE) (vs : List Nat) : PQA := fun env Q => pi env fun ds => ∃ I : Nat → List D → Prop, I 0 [] ∧ qcompOk g tt te (wipeE env vs) Q ds I
theorem purf_lc {wi : TI} {pi : PQA} {vs : List Nat} (hi : PurQI W E Xc wi pi) (hg : PurGQ W g p) (hin : TgIn g vs) (ht : PurQT W E Xc tt pt) (he : PurQ W E Xc te pe) : PurF W E Xc (tLc wi g tt te vs) (fLc pi p pt pe vs) := by
  intro Γ H σ env Q Q' vw x k q
  refine hi Γ H σ env _ _ vw x (fun J ds Γ1 H1 g1 it q1 => ?_) q
  obtain ⟨I, I0, st⟩ := q1
  intro Dd hD
  have nG1 : Γ1 Dd = none := g1.gh.free hD
  let Iv : Nat → Hp → Prop := fun i Hh => ∃ Γg acc us, Grow Γ1 H1 Γg Hh ∧ Γg Dd = none ∧ Hh Dd = some (.lst us) ∧ FRs W Γg us acc ∧ I i acc
  refine ⟨fun i m Hh => m = ds.length - i ∧ i ≤ ds.length ∧ Iv i Hh, ⟨ds.length, by simp, Nat.zero_le _, Γ1, [], [], grow_upd (Grow.refl g1.gh) hD, nG1, upd_same, .nil, I0⟩, ?_⟩
  rintro i m Hh ⟨rfl, hle, Γg, acc, us, gg, nGg, hHd, fr, q2⟩
  obtain ⟨i1, i2, i3⟩ := it Γg gg.g
  by_cases hlt : i < ds.length
  · refine .inr ⟨i2 i Hh gg.gh hlt, Iv (i + 1), fun H' h => ⟨ds.length - (i + 1), by omega, rfl, hlt, h⟩, fun y H3 hy => ?_⟩
    have q2 := (st i acc q2).1 _ (List.getElem?_eq_getElem hlt)
    obtain ⟨Γ3, g3, f3⟩ := i3 i ds[i] Hh y H3 gg.gh (List.getElem?_eq_getElem hlt) hy
    have nD : ∀ {Ga Ha Gb Hb : Hp}, Grow Ga Ha Gb Hb → Ga Dd = none → Ha Dd ≠ none → Gb Dd = none := fun {Ga Ha Gb Hb} t h1 h2 => by
      cases z : Gb Dd with
      | none => rfl
      | some u =>
        rcases t.n Dd u z with w | w
        · rw [h1] at w; cases w
        · exact absurd w h2
    have nG3 := nD g3 nGg (ne_none_of hHd)
    have hH3 : H3 Dd = some (.lst us) := g3.h _ _ hHd
    have g13 := gg.trans g3
    have vw3 : Vw W Γ3 H3 (L2.wipe σ vs) (wipeE env vs) := ((vw.grow g1).grow g13).wipe vs
    have x3 : XV W Γ3 H3 E Xc := (x.grow g1).grow g13
    refine hin σ y (L2.wipe σ vs) H3 (fun σ2 H2 => ∃ env', Vw W Γ3 H3 σ2 env' ∧ (pt env' fun b => if b = true then pe env' fun y => acc.length < sizeLine ∧ I (i + 1) (acc ++ [y]) else I (i + 1) acc)) _ wipe_wipe
      (fun σ2 hw ⟨env', v4, q4⟩ => ⟨hw, ?_⟩) (hg Γ3 H3 (L2.wipe σ vs) (wipeE env vs) y ds[i] _ _ vw3 f3 (fun σ' env' v q => ⟨env', v, q⟩) q2)
    refine ht Γ3 H3 σ2 env' _ _ v4 x3 (fun b Γ4 H4 g4 q5 => ?_) q4
    have nG4 := nD g4 nG3 (ne_none_of hH3)
    have hH4 : H4 Dd = some (.lst us) := g4.h _ _ hH3
    cases b with
    | false =>
      rw [if_neg Bool.false_ne_true] at q5 ⊢
      exact ⟨Γ4, acc, us, g13.trans g4, nG4, hH4, fr.mono (g3.trans g4).g, q5⟩
    | true =>
      rw [if_pos rfl] at q5 ⊢
      refine he Γ4 H4 σ2 env' _ _ (v4.grow g4) (x3.grow g4) (fun v d Γ5 H5 g5 f6 q6 => ?_) q5
      have nG5 := nD g5 nG4 (ne_none_of hH4)
      have hH5 : H5 Dd = some (.lst us) := g5.h _ _ hH4
      have g15 := (g13.trans g4).trans g5
      refine ⟨us, hH5, by rw [fr.length]; exact q6.1, Γ5, acc ++ [d], us ++ [v], ⟨g15.g, fun b o hb => ?_, g15.n, fun b o hb => ?_⟩, nG5, upd_same, (fr.mono ((g3.trans g4).trans g5).g).snoc f6, q6.2⟩
      · rw [upd_ne (ne_of_none hb hD)]
        exact g15.h b o hb
      · rw [upd_ne (ne_of_none hb nG5)]
        exact g15.gh b o hb
  · refine .inl ⟨i1 i Hh gg.gh (by omega), ?_⟩
    have q2 := (st i acc q2).2 (by omega)
    exact k Dd us acc Γg Hh (g1.trans gg) (g1.h.free hD) nGg hHd fr q2
end
/-! ### dict comprehensions -/
section
variable {P : Program} {w : World} {K : PySem.W.Frag} {E : XK} {Xc : XP} {tk tv : TE} {pk pv : PTE} {tt : TT} {pt : PTT}
theorem trs_leaf {W : Wd} {G : Hp} : ∀ {vs : List V} {ds : List D}, FRs W G vs ds → TRs W G emp vs (ds.map .leaf)
  | _, _, .nil => .nil
  | _, _, .cons f t => by
    have e : un emp emp = emp := by funext b; rfl
    have := TRs.cons (TR.leaf f) (trs_leaf t) (fun _ => .inl rfl)
    rw [e] at this
    exact this
theorem del_one {p : Addr} {o : HO} : del (one p o) p = emp := by
  funext b
  by_cases h : b = p
  · subst h; rw [del_same]; rfl
  · rw [del_ne h, one_ne h]; rfl
theorem tr_dict {W : Wd} {G : Hp} {p : Addr} {od : Obj} {ks : List D} {kv vv : List V} {ds : List D} {l : Option Obj} (hk : DkO W.P W.w od ks kv vv) (f : FRs W G kv ks) (h : FRs W G vv ds) (hl : ∀ o ∈ l, o = od) : TR W G (one p (ob p od)) (.ref p) (.dct l ks (ds.map .leaf)) :=
  .dct one_same hk f (by rw [del_one]; exact trs_leaf h) hl
def dcompOk (g : PTG) (tt : PTT) (tk tv : PTE) (vs : List Nat) (Q : Slot → Env → Prop) (ds : List D) (I : Nat → List D → List D → Env → Prop) : Prop := ∀ i ks xs e, I i ks xs e →
  (∀ d, ds[i]? = some d → g d e fun e1 => tt e1 fun b e2 => if b = true then tk e2 fun y e3 => tv e3 fun z e4 => kOk ks y ∧ ks.length < sizeLine ∧ I (i + 1) (putKs ks y) (putVv ks y xs z) (wipeE e4 vs) else I (i + 1) ks xs (wipeE e2 vs)) ∧
    (i = ds.length → Q (.tre (.dct none ks (xs.map .leaf))) e)
def oDc (pi : PTA) (g : PTG) (tt : PTT) (tk tv : PTE) (vs : List Nat) : PTO := fun env Q => pi env fun ds e1 => ∃ I : Nat → List D → List D → Env → Prop, I 0 [] [] (wipeE e1 vs) ∧ dcompOk g tt tk tv vs Q ds I
theorem putKv_frs {W : Wd} {G : Hp} {ks : List D} {kv : List V} {k : D} {y : V} (f : FRs W G kv ks) (q : FR W G y k) : FRs W G (putKv ks k kv y) (putKs ks k) := by
  unfold putKv putKs
  cases posD ks k with
  | none => exact f.snoc q
  | some n => exact f
theorem putVv_frs {W : Wd} {G : Hp} {ks : List D} {vv : List V} {ds : List D} {k d : D} {v : V} (f : FRs W G vv ds) (q : FR W G v d) : FRs W G (putVv ks k vv v) (putVv ks k ds d) := by
  unfold putVv
  cases posD ks k with
  | none => exact f.snoc q
  | some n => exact FRs.set q n f
theorem puro_dc {wi : TI} {pi : PTA} {g : TG} {p : PTG} {vs : List Nat} (hi : PurI (wd P w K) E Xc wi pi) (hg : PurG (wd P w K) g p) (hin : TgIn g vs) (ht : PurT (wd P w K) E Xc tt pt) (hk : PurE (wd P w K) E Xc tk pk) (hv : PurE (wd P w K) E Xc tv pv) :
    PurO (wd P w K) E Xc (tDcO (wd P w K) wi g tt tk tv vs) (oDc pi p pt pk pv vs) := by
  intro Z σ0 H G σ env φ Q Q' e x k q
  refine hi Z σ0 H G σ env φ _ _ e x (fun J ds H1 G1 e1 p1 t1 r1 it q1 => ?_) q
  obtain ⟨I, I0, st⟩ := q1
  intro Dd od0 hD dk0
  have zD : Z Dd := r1.zn Dd hD
  let Z' : Addr → Prop := fun b => Z b ∧ b ≠ Dd
  have zz : ∀ b, Z' b → Z b := fun b h => h.1
  have hG1 : G1 Dd = none := r1.gh.free hD
  have r1' : ER (wd P w K) Z' σ0 (upd H1 Dd (ob Dd od0)) G1 σ e1 p1 := by
    have r := r1.growH (same_upd (o := ob Dd od0) hD)
    refine ⟨r.len, r.sl, r.dis, r.dg, r.sub, r.gh, fun b h => ⟨r.zn b h, fun z => ?_⟩, fun i b h => ⟨r.zs i b h, fun z => ?_⟩⟩
    · subst z; rw [upd_same] at h; cases h
    · subst z
      exact h ((r1.sub i).free hD)
  let Iv : Nat → Hp → Prop := fun i Hh => ∃ Gg ev pv ks xs od kv vv, Ext Z G1 H1 Gg Hh ∧ Same G1 Gg ∧ Gg Dd = none ∧ Hh Dd = some (ob Dd od) ∧ DkO P w od ks kv vv ∧ FRs (wd P w K) Gg kv ks ∧ FRs (wd P w K) Gg vv xs ∧ ER (wd P w K) Z' σ0 Hh Gg (L2.wipe σ vs) (wipeE ev vs) pv ∧ I i ks xs (wipeE ev vs)
  refine ⟨fun i m Hh => m = ds.length - i ∧ i ≤ ds.length ∧ Iv i Hh,
    ⟨ds.length, by simp, Nat.zero_le _, G1, e1, p1, [], [], od0, [], [], ⟨Same.refl _, fun _ _ h => .inl h, fun b o h hn => same_upd hD b o h⟩, Same.refl _, hG1, upd_same, dk0, .nil, .nil, r1'.wipe vs, I0⟩, ?_⟩
  rintro i m Hh ⟨rfl, hle, Gg, ev, pv', ks, xs, od, kv, vv, t2, sg, hGd, hHd, dk, fk, fv, r2, q2⟩
  obtain ⟨i1, i2, i3⟩ := it Gg sg
  by_cases hlt : i < ds.length
  · refine .inr ⟨i2 i Hh r2.gh hlt, Iv (i + 1), fun H' h => ⟨ds.length - (i + 1), by omega, rfl, hlt, h⟩, fun y H3 hy => ?_⟩
    have q2 := (st i ks xs _ q2).1 _ (List.getElem?_eq_getElem hlt)
    obtain ⟨G3, g3, f3⟩ := i3 i ds[i] Hh y H3 r2.gh (List.getElem?_eq_getElem hlt) hy
    obtain ⟨r3, t3⟩ := r2.grow g3
    have nD : ∀ {Ga Ha Gb Hb : Hp}, Ext Z' Ga Ha Gb Hb → Ga Dd = none → Gb Dd = none := fun {Ga Ha Gb Hb} t h => by
      cases z : Gb Dd with
      | none => rfl
      | some u =>
        rcases t.gz Dd u z with w | w
        · rw [h] at w; cases w
        · exact absurd rfl w.2
    have hG3 : G3 Dd = none := nD t3 hGd
    have hH3 : H3 Dd = some (ob Dd od) := g3.h _ _ hHd
    have x3 : XOk (wd P w K) Z' G3 H3 E Xc := ((x.ext t1).ext (t2.trans (t3.weak zz))).zone zz
    refine hin σ y (L2.wipe σ vs) H3 (fun σ2 H2 => ∃ env' φ', ER (wd P w K) Z' σ0 H3 G3 σ2 env' φ' ∧ (pt env' fun b e2 => if b = true then pk e2 fun y e3 => pv e3 fun z e4 => kOk ks y ∧ ks.length < sizeLine ∧ I (i + 1) (putKs ks y) (putVv ks y xs z) (wipeE e4 vs) else I (i + 1) ks xs (wipeE e2 vs))) _ wipe_wipe
      (fun σ2 hw ⟨env', φ', r4, q4⟩ => ⟨hw, ?_⟩) (hg Z' σ0 H3 G3 (L2.wipe σ vs) (wipeE ev vs) pv' y ds[i] _ _ r3 f3 (fun σ' env' φ' r q => ⟨env', φ', r, q⟩) q2)
    refine ht Z' σ0 H3 G3 σ2 env' φ' _ _ r4 x3 (fun b H4 G4 e4 p4 t4 r5 q5 => ?_) q4
    have hG4 := nD t4 hG3
    have hH4 : H4 Dd = some (ob Dd od) := t4.hz _ _ hH3 fun z => z.2 rfl
    have tt4 : Ext Z G1 H1 G4 H4 := (t2.trans (t3.weak zz)).trans (t4.weak zz)
    cases b with
    | false =>
      rw [if_neg Bool.false_ne_true] at q5 ⊢
      exact ⟨G4, e4, p4, ks, xs, od, kv, vv, tt4, (sg.trans t3.g).trans t4.g, hG4, hH4, dk, fk.mono (t3.g.trans t4.g), fv.mono (t3.g.trans t4.g), r5.reWipe hw, q5⟩
    | true =>
      rw [if_pos rfl] at q5 ⊢
      refine hk Z' σ0 H4 G4 σ2 e4 p4 _ _ r5 (x3.ext t4) (fun yv yd H5 G5 e5 p5 t5 r6 f6 q6 => ?_) q5
      have hG5 := nD t5 hG4
      have hH5 : H5 Dd = some (ob Dd od) := t5.hz _ _ hH4 fun z => z.2 rfl
      refine hv Z' σ0 H5 G5 σ2 e5 p5 _ _ r6 ((x3.ext t4).ext t5) (fun zv zd H6 G6 e6 p6 t6 r7 f7 q7 => ?_) q6
      have hG6 := nD t6 hG5
      have hH6 : H6 Dd = some (ob Dd od) := t6.hz _ _ hH5 fun z => z.2 rfl
      have t36 : Same Gg G6 := ((t3.g.trans t4.g).trans t5.g).trans t6.g
      have fk6 := fk.mono t36
      have fy6 := f6.mono t6.g
      refine ⟨od, ks, kv, vv, yd, ⟨hH6, dk, fk6.mono r7.gh⟩, ⟨fy6.mono r7.gh, q7.1.1, q7.1.2⟩, q7.2.1, fun od' dk' => ?_⟩
      refine ⟨G6, e6, p6, putKs ks yd, putVv ks yd xs zd, od', _, _, (((tt4.trans (t5.weak zz)).trans (t6.weak zz)).trans ⟨Same.refl _, fun _ _ h => .inl h, fun b o h hn => ?_⟩), sg.trans t36, hG6, upd_same, dk', putKv_frs fk6 fy6, putVv_frs (fv.mono t36) f7, (r7.reWipe hw).updOut (fun z => z.2 rfl) hG6, q7.2.2⟩
      rw [upd_ne (fun z => hn (by rw [z]; exact zD))]
      exact h
  · refine .inl ⟨i1 i Hh r2.gh (by omega), ?_⟩
    have q2 := (st i ks xs _ q2).2 (by omega)
    have r3 : ER (wd P w K) Z σ0 Hh Gg σ (wipeE ev vs) pv' := by
      have r := r2.unwipe
      exact ⟨r.len, r.sl, r.dis, r.dg, r.sub, r.gh, fun b h => zz b (r.zn b h), fun i b h => zz b (r.zs i b h)⟩
    refine k (.ref Dd) (.tre (.dct none ks (xs.map .leaf))) (one Dd (ob Dd od)) Hh Gg (wipeE ev vs) pv' (t1.trans t2) r3 ⟨tr_dict dk fk fv (by simp), fun b => ?_, fun i b => ?_, fun b o h => ?_, fun b h => ?_⟩ q2
    · by_cases hb : b = Dd
      · subst hb; exact .inl hGd
      · exact .inr (one_ne hb)
    · by_cases hb : b = Dd
      · subst hb
        cases z : pv' i b with
        | none => exact .inl rfl
        | some u => exact absurd rfl (r2.zs i b (ne_none_of z)).2
      · exact .inr (one_ne hb)
    · by_cases hb : b = Dd
      · subst hb
        rw [one_same] at h
        rw [hHd]; exact h
      · rw [one_ne hb] at h; cases h
    · by_cases hb : b = Dd
      · subst hb; exact zD
      · exact absurd (one_ne hb) h
/-- {} -/
def oNew : PTO := fun env Q => Q (.tre (.dct none [] [])) env
theorem puro_new : PurO (wd P w K) E Xc (tDNewO (wd P w K)) oNew := by
  intro Z σ0 H G σ env φ Q Q' e x k q p od hp dk
  obtain ⟨r, t, d1, d2, d3, d4⟩ := e.ownNew (o := ob p od) hp
  exact k (.ref p) (.tre (.dct none [] [])) (one p (ob p od)) _ _ _ _ t r ⟨tr_dict (ds := []) dk .nil .nil (by simp), d1, d2, d3, d4⟩ q
end
end Pu

set_option Elab.async false
set_option linter.all false
set_option maxRecDepth 100000
namespace Pu
open PySem PySem.Spec L2
def treS : Slot → Option T
  | .tre t => some t
  | .ptr t => some t
  | _ => none
def setT : Slot → T → Slot
  | .tre _, t => .tre t
  | .ptr _, t => .ptr t
  | s, _ => s
section
variable {W : Wd} {Z : Addr → Prop} {σ0 : L2.St} {H G H' G' H2 : Hp} {σ : L2.St} {env : Env} {φ : Nat → Hp} {i : Nat} {p : List Nat} {s : Slot} {t0 t t2 : T} {v0 v : V} {F1 F2 : Hp}
theorem ER.kp (e : ER W Z σ0 H G σ env φ) : ER W Z σ0 H G σ env (fun i => kpF (φ i)) :=
  ⟨e.len, fun i s h => (e.sl i s h).kp, fun i j hij => kpF_dis (e.dis i j hij), fun i => (e.dg i).subR fun b o h => (kpF_of h).1, fun i b o h => e.sub i b o (kpF_of h).1, e.gh, e.zn, fun i b h => by
    cases z : kpF (φ i) b with
    | none => exact absurd z h
    | some o => exact e.zs i b (ne_none_of (kpF_of z).1)⟩
theorem ER.tre (e : ER W Z σ0 H G σ env φ) (h : env[i]? = some s) (ht : treS s = some t) : ∃ v, σ[i]? = some (some v) ∧ TR W G (φ i) v t := by
  have q := e.sl i s h
  cases s <;> first | (cases ht; done) | skip
  · cases ht; obtain ⟨v, a, b⟩ := q; exact ⟨v, a, b⟩
  · cases ht; obtain ⟨v, a, _, b⟩ := q; exact ⟨v, a, b⟩
/-- new to all -/
def Frs (Z : Addr → Prop) (G : Hp) (φ : Nat → Hp) (b : Addr) : Prop := (∀ j, φ j b = none) ∧ G b = none ∧ Z b
/-- a node changes -/
theorem ER.mutT (e : ER W Z σ0 H G σ env φ) (h : env[i]? = some s) (ht : treS s = some t0) (hv : σ[i]? = some (some v0)) (f : Foc W G (φ i) v0 t0 p v F1 t)
    (hF : ∀ b, F2 b ≠ none → F1 b ≠ none ∨ Frs Z G φ b) (hs : Same F2 H2) (hH : ∀ b o, H b = some o → F1 b = none → H2 b = some o) (tr : TR W G F2 v t2) :
    Ext Z G H G H2 ∧ ER W Z σ0 H2 G σ (env.set i (setT s (t0.put p t2))) (fun j => if j = i then sw (φ i) F1 F2 else φ j) := by
  have hi : i < env.length := (List.getElem?_eq_some_iff.mp h).1
  have F1z : ∀ b, F1 b ≠ none → Z b ∧ G b = none ∧ ∀ j, j ≠ i → φ j b = none := fun b hb => by
    cases q : F1 b with
    | none => exact absurd q hb
    | some o =>
      have hp := f.sub b o q
      refine ⟨e.zs i b (ne_none_of hp), (e.dg i b).resolve_right (ne_none_of hp), fun j hj => (e.dis j i hj b).resolve_right (ne_none_of hp)⟩
  have F2z : ∀ b, F2 b ≠ none → Z b ∧ G b = none ∧ ∀ j, j ≠ i → φ j b = none := fun b hb => (hF b hb).elim (F1z b) fun q => ⟨q.2.2, q.2.1, fun j _ => q.1 j⟩
  have swz : ∀ b, sw (φ i) F1 F2 b ≠ none → Z b ∧ G b = none ∧ ∀ j, j ≠ i → φ j b = none := fun b hb => by
    cases q : sw (φ i) F1 F2 b with
    | none => exact absurd q hb
    | some o =>
      rcases sw_cases q with q | ⟨_, q⟩
      · exact F2z b (ne_none_of q)
      · exact ⟨e.zs i b (ne_none_of q), (e.dg i b).resolve_right (ne_none_of q), fun j hj => (e.dis j i hj b).resolve_right (ne_none_of q)⟩
  have d2 : Dis F2 (mns (φ i) F1) := fun b => by
    cases q : F2 b with
    | none => exact .inl rfl
    | some o =>
      refine .inr ?_
      rcases hF b (ne_none_of q) with z | z
      · unfold mns
        cases y : F1 b with
        | none => exact absurd y z
        | some u => rfl
      · unfold mns
        cases y : F1 b with
        | none => exact z.1 i
        | some u => rfl
  have tr' := f.put G F2 t2 (Same.refl _) tr d2
  refine ⟨⟨Same.refl _, fun _ _ q => .inl q, fun b o q n => hH b o q ?_⟩, ⟨by rw [List.length_set]; exact e.len, fun j u hj => ?_, fun j k hjk => ?_, fun j => ?_, fun j => ?_, fun b o q => ?_, fun b q => ?_, fun j b q => ?_⟩⟩
  · cases z : F1 b with
    | none => rfl
    | some u => exact absurd (F1z b (ne_none_of z)).1 n
  · by_cases hji : j = i
    · subst hji
      rw [List.getElem?_set_self hi] at hj
      cases hj
      simp only [if_pos]
      have q := e.sl j s h
      cases s <;> first | (cases ht; done) | skip
      · exact ⟨v0, hv, tr'⟩
      · obtain ⟨u, a, b, _⟩ := q
        rw [a] at hv
        cases hv
        exact ⟨v0, a, b, tr'⟩
    · rw [List.getElem?_set_ne (Ne.symm hji)] at hj
      simp only [if_neg hji]
      exact e.sl j u hj
  · by_cases hj : j = i
    · by_cases hk : k = i
      · exact absurd (hj.trans hk.symm) hjk
      · simp only [if_pos hj, if_neg hk]
        intro b
        cases z : sw (φ i) F1 F2 b with
        | none => exact .inl rfl
        | some o => exact .inr ((swz b (ne_none_of z)).2.2 k hk)
    · by_cases hk : k = i
      · simp only [if_neg hj, if_pos hk]
        intro b
        cases z : sw (φ i) F1 F2 b with
        | none => exact .inr rfl
        | some o => exact .inl ((swz b (ne_none_of z)).2.2 j hj)
      · simp only [if_neg hj, if_neg hk]
        exact e.dis j k hjk
  · by_cases hj : j = i
    · simp only [if_pos hj]
      intro b
      cases z : sw (φ i) F1 F2 b with
      | none => exact .inr rfl
      | some o => exact .inl (swz b (ne_none_of z)).2.1
    · simp only [if_neg hj]; exact e.dg j
  · by_cases hj : j = i
    · simp only [if_pos hj]
      intro b o q
      rcases sw_cases q with q | ⟨n, q⟩
      · exact hs b o q
      · exact hH b o (e.sub i b o q) n
    · simp only [if_neg hj]
      intro b o q
      refine hH b o (e.sub j b o q) ?_
      cases z : F1 b with
      | none => rfl
      | some u => have := (F1z b (ne_none_of z)).2.2 j hj; rw [this] at q; cases q
  · refine hH b o (e.gh b o q) ?_
    cases z : F1 b with
    | none => rfl
    | some u => have := (F1z b (ne_none_of z)).2.1; rw [this] at q; cases q
  · cases z : F1 b with
    | some u => exact (F1z b (ne_none_of z)).1
    | none =>
      refine e.zn b ?_
      cases y : H b with
      | none => rfl
      | some o => rw [hH b o y z] at q; cases q
  · by_cases hj : j = i
    · simp only [if_pos hj] at q; exact (swz b q).1
    · simp only [if_neg hj] at q; exact e.zs j b q
/-! ### the kids of a node -/
theorem un_emp {A : Hp} : un A emp = A := by
  funext b
  unfold un
  cases A b <;> rfl
theorem TRs.len : ∀ {F : Hp} {vs : List V} {ts : List T}, TRs W G F vs ts → vs.length = ts.length
  | _, _, _, .nil => rfl
  | _, _, _, .cons _ h _ => by simp [TRs.len h]
theorem un_assoc {A B C : Hp} : un (un A B) C = un A (un B C) := by
  funext b
  unfold un
  cases A b <;> rfl
theorem TRs.snoc {B : Hp} {u : V} {x : T} (hb : TR W G B u x) : ∀ {F : Hp} {vs : List V} {ts : List T}, TRs W G F vs ts → Dis F B → TRs W G (un F B) (vs ++ [u]) (ts ++ [x])
  | _, _, _, .nil, _ => by
    have e : un emp B = un B emp := by rw [un_emp]; funext b; rfl
    rw [e]
    exact .cons hb .nil fun b => .inr rfl
  | _, _, _, .cons (F1 := A) (F2 := C) h1 h2 d, dB => by
    rw [un_assoc]
    refine .cons h1 (TRs.snoc hb h2 (dB.subL (un_r d))) fun b => ?_
    rcases d b with z | z
    · exact .inl z
    · rcases dB b with y | y
      · exact .inl (un_none y).1
      · exact .inr (none_un z y)
theorem TRs.setN {B : Hp} {u : V} {x : T} (hb : TR W G B u x) : ∀ {F : Hp} {vs : List V} {ts : List T} (n : Nat), TRs W G F vs ts → Dis F B → ∃ F', TRs W G F' (vs.set n u) (ts.set n x) ∧ Same F' (un F B)
  | _, _, _, n, .nil, d => ⟨emp, by simpa using .nil, fun _ _ z => nomatch z⟩
  | _, _, _, 0, .cons (F1 := A) (F2 := C) h1 h2 d, dB => ⟨un B C, .cons hb h2 ((dB.subL (un_r d)).symm), fun b o e => by
      rcases un_cases e with e | ⟨_, e⟩
      · exact un_r dB b o e
      · exact un_l b o (un_r d b o e)⟩
  | _, _, _, n + 1, .cons (F1 := A) (F2 := C) h1 h2 d, dB => by
    obtain ⟨F', h3, h4⟩ := TRs.setN hb n h2 (dB.subL (un_r d))
    refine ⟨un A F', .cons h1 h3 fun b => ?_, fun b o e => ?_⟩
    · cases q : F' b with
      | none => exact .inr rfl
      | some o =>
        refine .inl ?_
        rcases un_cases (h4 b o q) with z | ⟨_, z⟩
        · exact (d b).resolve_right (ne_none_of z)
        · exact (un_none ((dB b).resolve_right (ne_none_of z))).1
    · rcases un_cases e with e | ⟨_, e⟩
      · exact un_l b o (un_l b o e)
      · rcases un_cases (h4 b o e) with z | ⟨_, z⟩
        · exact un_l b o (un_r d b o z)
        · exact un_r dB b o z
theorem TRs.eraseN : ∀ {F : Hp} {vs : List V} {ts : List T} (n : Nat), TRs W G F vs ts → ∃ F', TRs W G F' (vs.eraseIdx n) (ts.eraseIdx n) ∧ Same F' F
  | _, _, _, n, .nil => ⟨emp, by simpa using .nil, Same.refl _⟩
  | _, _, _, 0, .cons (F1 := A) (F2 := C) h1 h2 d => ⟨C, h2, un_r d⟩
  | _, _, _, n + 1, .cons (F1 := A) (F2 := C) h1 h2 d => by
    obtain ⟨F', h3, h4⟩ := TRs.eraseN n h2
    exact ⟨un A F', .cons h1 h3 (d.subR h4), un_mono (Same.refl _) h4 d⟩
/-- a list node changes -/
theorem ER.mutLn {ts : List T} (e : ER W Z σ0 H G σ env φ) (h : env[i]? = some s) (ht : treS s = some t0) (hv : σ[i]? = some (some v0)) (f : Foc W G (φ i) v0 t0 p v F1 (.lst ts)) :
    ∃ a vs, v = .ref a ∧ H a = some (.lst vs) ∧ TRs W G (del F1 a) vs ts ∧ ∀ us ts' Fk, TRs W G Fk us ts' → (∀ b, Fk b ≠ none → del F1 a b ≠ none ∨ Frs Z G φ b) → Same Fk H →
      ∃ φ', Ext Z G H G (upd H a (.lst us)) ∧ ER W Z σ0 (upd H a (.lst us)) G σ (env.set i (setT s (t0.put p (.lst ts')))) φ' := by
  have tr := f.tr
  cases tr with
  | @lst _ a vs _ h1 h2 =>
    have hHa := e.sub i a _ (f.sub a _ h1)
    refine ⟨a, vs, rfl, hHa, h2, fun us ts' Fk hk hF hs => ⟨_, e.mutT (F2 := un (one a (.lst us)) Fk) h ht hv f (fun b hb => ?_) (fun b o q => ?_) (fun b o q n => ?_) ?_⟩⟩
    · by_cases hba : b = a
      · subst hba; exact .inl (ne_none_of h1)
      · rcases hF b (fun z => hb (none_un (one_ne hba) z)) with z | z
        · exact .inl fun y => z (by rw [del_ne hba]; exact y)
        · exact .inr z
    · by_cases hba : b = a
      · subst hba
        rw [upd_same]
        have : un (one b (.lst us)) Fk b = some (.lst us) := un_l b _ one_same
        rw [this] at q; exact q
      · rw [upd_ne hba]
        rcases un_cases q with q | ⟨_, q⟩
        · rw [one_ne hba] at q; cases q
        · exact hs b o q
    · rw [upd_ne fun z => by subst z; rw [h1] at n; cases n]
      exact q
    · have nk : Fk a = none := by
        cases z : Fk a with
        | none => rfl
        | some o =>
          rcases hF a (ne_none_of z) with y | y
          · rw [del_same] at y; exact absurd rfl y
          · have := y.1 i
            rw [f.sub a _ h1] at this; cases this
      refine .lst (un_l a _ one_same) ?_
      have : del (un (one a (.lst us)) Fk) a = Fk := by
        funext b
        by_cases hba : b = a
        · subst hba; rw [del_same, nk]
        · rw [del_ne hba]; unfold un; rw [one_ne hba]
      rw [this]
      exact hk
/-- a dict node changes -/
theorem ER.mutDn {l : Option Obj} {ks : List D} {ts : List T} (e : ER W Z σ0 H G σ env φ) (h : env[i]? = some s) (ht : treS s = some t0) (hv : σ[i]? = some (some v0)) (f : Foc W G (φ i) v0 t0 p v F1 (.dct l ks ts)) :
    ∃ a od kv vv, v = .ref a ∧ DcA W H a od ks kv vv ∧ FRs W G kv ks ∧ TRs W G (del F1 a) vv ts ∧ ∀ od' ks' kv' us ts' Fk, DkO W.P W.w od' ks' kv' us → FRs W G kv' ks' → TRs W G Fk us ts' → (∀ b, Fk b ≠ none → del F1 a b ≠ none ∨ Frs Z G φ b) → Same Fk H →
      ∃ φ', Ext Z G H G (upd H a (ob a od')) ∧ ER W Z σ0 (upd H a (ob a od')) G σ (env.set i (setT s (t0.put p (.dct none ks' ts')))) φ' := by
  have tr := f.tr
  cases tr with
  | @dct _ a od _ _ kv vv _ h1 hk0 hf0 h2 hl =>
    have hHa := e.sub i a _ (f.sub a _ h1)
    refine ⟨a, od, kv, vv, rfl, ⟨hHa, hk0, hf0.mono e.gh⟩, hf0, h2, fun od' ks' kv' us ts' Fk hdk hfk hk hF hs => ⟨_, e.mutT (F2 := un (one a (ob a od')) Fk) h ht hv f (fun b hb => ?_) (fun b o q => ?_) (fun b o q n => ?_) ?_⟩⟩
    · by_cases hba : b = a
      · subst hba; exact .inl (ne_none_of h1)
      · rcases hF b (fun z => hb (none_un (one_ne hba) z)) with z | z
        · exact .inl fun y => z (by rw [del_ne hba]; exact y)
        · exact .inr z
    · by_cases hba : b = a
      · subst hba
        rw [upd_same]
        have : un (one b (ob b od')) Fk b = some (ob b od') := un_l b _ one_same
        rw [this] at q; exact q
      · rw [upd_ne hba]
        rcases un_cases q with q | ⟨_, q⟩
        · rw [one_ne hba] at q; cases q
        · exact hs b o q
    · rw [upd_ne fun z => by subst z; rw [h1] at n; cases n]
      exact q
    · have nk : Fk a = none := by
        cases z : Fk a with
        | none => rfl
        | some o =>
          rcases hF a (ne_none_of z) with y | y
          · rw [del_same] at y; exact absurd rfl y
          · have := y.1 i
            rw [f.sub a _ h1] at this; cases this
      refine .dct (un_l a _ one_same) hdk hfk ?_ (by simp)
      have : del (un (one a (ob a od')) Fk) a = Fk := by
        funext b
        by_cases hba : b = a
        · subst hba; rw [del_same, nk]
        · rw [del_ne hba]; unfold un; rw [one_ne hba]
      rw [this]
      exact hk
/-- an instance changes -/
theorem ER.mutOn {C : Addr} {ns : List Str} {ts : List T} (e : ER W Z σ0 H G σ env φ) (h : env[i]? = some s) (ht : treS s = some t0) (hv : σ[i]? = some (some v0)) (f : Foc W G (φ i) v0 t0 p v F1 (.obj C ns ts)) :
    ∃ a dx fs, v = .ref a ∧ H a = some (.ins C dx fs) ∧ ns = fs.map (·.1) ∧ TRs W G (del (del F1 a) dx) (fs.map (·.2)) ts ∧ ∀ fs' ts' Fk, TRs W G Fk (fs'.map (·.2)) ts' → (∀ b, Fk b ≠ none → del (del F1 a) dx b ≠ none ∨ Frs Z G φ b) → Same Fk H →
      ∃ φ', Ext Z G H G (upd H a (.ins C dx fs')) ∧ ER W Z σ0 (upd H a (.ins C dx fs')) G σ (env.set i (setT s (t0.put p (.obj C (fs'.map (·.1)) ts')))) φ' := by
  have tr := f.tr
  cases tr with
  | @obj _ a _ dx fs _ vs _ h1 h1' en ev h2 =>
    subst ev
    have hHa := e.sub i a _ (f.sub a _ h1)
    have hHd := e.sub i dx _ (f.sub dx _ h1')
    have nad : dx ≠ a := fun z => by subst z; rw [h1] at h1'; cases h1'
    refine ⟨a, dx, fs, rfl, hHa, en, h2, fun fs' ts' Fk hk hF hs => ⟨_, e.mutT (F2 := un (un (one a (.ins C dx fs')) (one dx (.own a))) Fk) h ht hv f (fun b hb => ?_) (fun b o q => ?_) (fun b o q n => ?_) ?_⟩⟩
    · by_cases hba : b = a
      · subst hba; exact .inl (ne_none_of h1)
      · by_cases hbd : b = dx
        · subst hbd; exact .inl (ne_none_of h1')
        · rcases hF b (fun z => hb (none_un (none_un (one_ne hba) (one_ne hbd)) z)) with z | z
          · exact .inl fun y => z (by rw [del_ne hbd, del_ne hba]; exact y)
          · exact .inr z
    · by_cases hba : b = a
      · subst hba
        rw [upd_same]
        have : un (un (one b (.ins C dx fs')) (one dx (.own b))) Fk b = some (.ins C dx fs') := un_l b _ (un_l b _ one_same)
        rw [this] at q; exact q
      · rw [upd_ne hba]
        rcases un_cases q with q | ⟨_, q⟩
        · rcases un_cases q with q | ⟨_, q⟩
          · rw [one_ne hba] at q; cases q
          · by_cases hbd : b = dx
            · subst hbd; rw [one_same] at q; rw [hHd]; exact q
            · rw [one_ne hbd] at q; cases q
        · exact hs b o q
    · rw [upd_ne fun z => by subst z; rw [h1] at n; cases n]
      exact q
    · have nk : ∀ b, b = a ∨ b = dx → Fk b = none := fun b hb => by
        cases z : Fk b with
        | none => rfl
        | some o =>
          rcases hF b (ne_none_of z) with y | y
          · rcases hb with rfl | rfl
            · exfalso
              by_cases q : b = dx
              · exact nad q.symm
              · rw [del_ne q, del_same] at y; exact y rfl
            · rw [del_same] at y; exact absurd rfl y
          · have := y.1 i
            rcases hb with rfl | rfl
            · rw [f.sub _ _ h1] at this; cases this
            · rw [f.sub _ _ h1'] at this; cases this
      refine .obj (dx := dx) (fs := fs') (un_l a _ (un_l a _ one_same)) (un_l dx _ ?_) rfl rfl ?_
      · unfold un; rw [one_ne nad]; exact one_same
      · have : del (del (un (un (one a (.ins C dx fs')) (one dx (.own a))) Fk) a) dx = Fk := by
          funext b
          by_cases hbd : b = dx
          · subst hbd; rw [del_same, nk b (.inr rfl)]
          · rw [del_ne hbd]
            by_cases hba : b = a
            · subst hba; rw [del_same, nk b (.inl rfl)]
            · rw [del_ne hba]; unfold un; rw [one_ne hba, one_ne hbd]
        rw [this]
        exact hk
end
end Pu

set_option Elab.async false
set_option linter.all false
namespace Pu
open PySem PySem.Spec L2
variable {g : PTG} {tt : PTT} {te : PTE} {vs : List Nat} {Q : Slot → Env → Prop} {ds : List D} {env : Env}
/-- some of the elements stay, in their order -/
theorem comp_sub (hl : ds.length ≤ sizeLine)
    (h : ∀ d ∈ ds, ∀ K : Option D → Env → Prop, K none env → K (some d) env → g d env fun e1 => tt e1 fun b e2 => if b = true then te e2 fun y e3 => K (some y) (wipeE e3 vs) else K none (wipeE e2 vs))
    (q : ∀ ys : List D, ys.Sublist ds → Q (.own (.lst ys)) env) : ∃ I : Nat → List D → Env → Prop, I 0 [] env ∧ compOk g tt te vs Q ds I := by
  refine ⟨fun i acc e => e = env ∧ acc.Sublist (ds.take i), ⟨rfl, by simp⟩, ?_⟩
  rintro i acc e ⟨rfl, ha⟩
  refine ⟨fun d hd => ?_, fun hi => ?_⟩
  · obtain ⟨hi, h2⟩ := List.getElem?_eq_some_iff.mp hd
    have hm : d ∈ ds := h2 ▸ List.getElem_mem hi
    have hlt : acc.length < sizeLine := by
      have := ha.length_le
      rw [List.length_take] at this
      omega
    have ht : ds.take (i + 1) = ds.take i ++ [d] := by rw [List.take_succ, hd]; rfl
    refine h d hm (fun o e' => match o with
      | some y => acc.length < sizeLine ∧ e' = e ∧ (acc ++ [y]).Sublist (ds.take (i + 1))
      | none => e' = e ∧ acc.Sublist (ds.take (i + 1))) ?_ ?_
    · exact ⟨rfl, by rw [ht]; exact ha.trans (List.sublist_append_left _ _)⟩
    · exact ⟨hlt, rfl, by rw [ht]; exact List.Sublist.append ha (List.Sublist.refl _)⟩
  · subst hi
    rw [List.take_length] at ha
    exact q acc ha
theorem sub_map {α : Type} {f : α → D} : ∀ {xs : List α} {ys : List D}, ys.Sublist (xs.map f) → ∃ zs : List α, zs.Sublist xs ∧ ys = zs.map f := by
  intro xs ys h
  obtain ⟨zs, hz, e⟩ := List.sublist_map_iff.mp h
  exact ⟨zs, hz, e⟩
/-- the length of what is left is nothing exactly if all fit -/
theorem none_len {f : D → Option D} {ds : List D} : ((ds.filterMap f).length : Int) = 0 ↔ ∀ d ∈ ds, f d = none := by
  rw [show ((ds.filterMap f).length : Int) = 0 ↔ (ds.filterMap f).length = 0 by omega, List.length_eq_zero_iff, List.filterMap_eq_nil_iff]
/-! ### joining -/
theorem joinS_ok {a : List Nat} {xs : List (List Nat)} {m : Nat} (h : ∀ x ∈ xs, x.length ≤ m) (hm : xs.length * m + xs.length * a.length ≤ 16777216) : joinOk (SX.S a) (xs.map SX.S) := by
  unfold joinOk
  have := sum_len (ls := xs.map SX.S) (m := m) (fun l hl => by
    obtain ⟨x, hx, rfl⟩ := List.mem_map.mp hl
    rw [SX.S_len]
    exact h x hx)
  rw [List.length_map, SX.S_len] at *
  omega
theorem join_nil : ∀ ws : List Nat, TL.joinL [] (ws.map fun c => [c]) = ws
  | [] => rfl
  | [a] => rfl
  | a :: b :: r => by
    have := join_nil (b :: r)
    simp only [List.map_cons, TL.joinL] at this ⊢
    rw [this]
    rfl
theorem join_spl {c : Nat} : ∀ (t acc : List Nat), TL.joinL [c] (TL.spl [c] 0 acc t) = acc ++ t
  | [], acc => by rw [TL.spl_nil]; simp [TL.joinL]
  | x :: r, acc => by
    have ne : ∀ u a : List Nat, TL.spl [c] 0 a u ≠ [] := by
      intro u
      induction u with
      | nil => intro a; rw [TL.spl_nil]; simp
      | cons y u ih =>
        intro a
        cases q : TL.pre [c] (y :: u) with
        | true => rw [TL.spl_hit q]; simp
        | false => rw [TL.spl_miss q]; exact ih _
    cases q : TL.pre [c] (x :: r) with
    | true =>
      have hx : x = c := by simpa [TL.pre] using q
      rw [TL.spl_hit q]
      have := join_spl (c := c) r []
      obtain ⟨p, ps, e⟩ := List.exists_cons_of_ne_nil (ne r [])
      simp only [List.length_singleton, Nat.sub_self] at *
      rw [e] at this ⊢
      rw [TL.joinL, this, hx]
      simp
    | false =>
      rw [TL.spl_miss q, join_spl r (acc ++ [x])]
      simp
theorem spl_len {c : Nat} : ∀ (a acc : List Nat), ∀ x ∈ TL.spl [c] 0 acc a, x.length ≤ acc.length + a.length
  | [], acc, x, h => by rw [TL.spl_nil, List.mem_singleton] at h; subst h; simp
  | y :: r, acc, x, h => by
    cases q : TL.pre [c] (y :: r) with
    | true =>
      rw [TL.spl_hit q, List.mem_cons] at h
      rcases h with h | h
      · subst h; simp
      · have := spl_len r [] x h
        simp at this ⊢
        omega
    | false =>
      rw [TL.spl_miss q] at h
      have := spl_len r (acc ++ [y]) x h
      simp at this ⊢
      omega
theorem spl_no {c : Nat} : ∀ (a acc : List Nat), (TL.spl [c] 0 acc a).length ≤ a.length + 1
  | [], acc => by rw [TL.spl_nil]; simp
  | y :: r, acc => by
    cases q : TL.pre [c] (y :: r) with
    | true =>
      rw [TL.spl_hit q]
      have := spl_no (c := c) r []
      simp at this ⊢
      omega
    | false =>
      rw [TL.spl_miss q]
      have := spl_no (c := c) r (acc ++ [y])
      simp at this ⊢
      omega
theorem spl_free {c : Nat} : ∀ (a acc : List Nat), c ∉ acc → ∀ x ∈ TL.spl [c] 0 acc a, c ∉ x
  | [], acc, hc, x, h => by rw [TL.spl_nil, List.mem_singleton] at h; subst h; exact hc
  | y :: r, acc, hc, x, h => by
    cases q : TL.pre [c] (y :: r) with
    | true =>
      rw [TL.spl_hit q, List.mem_cons] at h
      rcases h with h | h
      · subst h; exact hc
      · exact spl_free r [] (by simp) x h
    | false =>
      have hy : y ≠ c := by
        intro e
        subst e
        simp [TL.pre] at q
      rw [TL.spl_miss q] at h
      refine spl_free r (acc ++ [y]) ?_ x h
      simp only [List.mem_append, List.mem_singleton, not_or]
      exact ⟨hc, fun e => hy e.symm⟩
theorem par1 {s : Nat} : ∀ (l acc : List Nat), (s ∉ l ∧ TL.par [s] acc l = none) ∨ ∃ p q, l = p ++ s :: q ∧ s ∉ p ∧ TL.par [s] acc l = some (acc ++ p, q)
  | [], acc => .inl ⟨by simp, by simp [TL.par]⟩
  | y :: r, acc => by
    cases q : TL.pre [s] (y :: r) with
    | true =>
      have hy : y = s := by simpa [TL.pre] using q
      subst hy
      refine .inr ⟨[], r, rfl, by simp, ?_⟩
      rw [TL.par_hit q]
      simp
    | false =>
      have hy : y ≠ s := by
        intro e
        subst e
        simp [TL.pre] at q
      rw [TL.par_miss q]
      rcases par1 (s := s) r (acc ++ [y]) with ⟨h1, h2⟩ | ⟨p, w, rfl, h2, h3⟩
      · exact .inl ⟨by simp only [List.mem_cons, not_or]; exact ⟨fun e => hy e.symm, h1⟩, h2⟩
      · refine .inr ⟨y :: p, w, rfl, by simp only [List.mem_cons, not_or]; exact ⟨fun e => hy e.symm, h2⟩, ?_⟩
        rw [h3]
        simp
theorem part1 (s : Nat) (t : List Nat) : (s ∉ t ∧ Txt.partition (SX.S t) (SX.S [s]) = (SX.S t, SX.S [], SX.S [])) ∨ ∃ p q, t = p ++ s :: q ∧ s ∉ p ∧ Txt.partition (SX.S t) (SX.S [s]) = (SX.S p, SX.S [s], SX.S q) := by
  rcases par1 (s := s) t [] with ⟨h1, h2⟩ | ⟨p, q, e, h2, h3⟩
  · exact .inl ⟨h1, SX.partition_none (by simp) h2⟩
  · exact .inr ⟨p, q, e, h2, SX.partition_some (by simp) (by simpa using h3)⟩
/-! ### the signs of a text that are kept -/
theorem ofS (t : Str) : t = SX.S t.cps.toList := by cases t; simp [SX.S]
theorem sgnS (l : List Nat) : signsD (SX.S l) = l.map fun c => D.str ⟨#[c]⟩ := by simp [signsD, SX.S]
theorem comp_str (p : Nat → Bool) {t : List Nat} (hl : t.length ≤ sizeLine)
    (h : ∀ c ∈ t, ∀ K : Option D → Env → Prop, (p c = true → K (some (D.str ⟨#[c]⟩)) env) → (p c = false → K none env) → g (D.str ⟨#[c]⟩) env fun e1 => tt e1 fun b e2 => if b = true then te e2 fun y e3 => K (some y) (wipeE e3 vs) else K none (wipeE e2 vs))
    (q : Q (.own (.lst ((t.filter p).map fun c => D.str ⟨#[c]⟩))) env) : ∃ I : Nat → List D → Env → Prop, I 0 [] env ∧ compOk g tt te vs Q (signsD (SX.S t)) I := by
  rw [sgnS]
  refine comp_fn (fun d => match d with
    | .str x => if p (x.cps.toList.headD 0) = true then some d else none
    | d => none) (by simpa using hl) (fun d hd K k => ?_) ?_
  · obtain ⟨c, hc, rfl⟩ := List.mem_map.mp hd
    refine h c hc K (fun e => ?_) (fun e => ?_)
    · simpa [e] using k
    · simpa [e] using k
  · have e : (t.map fun c => D.str ⟨#[c]⟩).filterMap (fun d => match d with
        | .str x => if p (x.cps.toList.headD 0) = true then some d else none
        | d => none) = (t.filter p).map fun c => D.str ⟨#[c]⟩ := by
      clear q h hl
      induction t with
      | nil => rfl
      | cons c r ih =>
        rw [List.map_cons, List.filterMap_cons, ih, List.filter_cons]
        cases hp : p c <;> simp [hp]
    rw [e]
    exact q
theorem filter_none {p : Nat → Bool} {t : List Nat} : (t.filter p).length = 0 ↔ ∀ c ∈ t, p c = false := by
  rw [List.length_eq_zero_iff, List.filter_eq_nil_iff]
  simp
/-! ### numbers in digits -/
theorem numL_head {n : Nat} (h0 : n ≠ 0) : (TL.numL n).head? ≠ some 48 := by
  induction n using Nat.strongRecOn with
  | ind m ih =>
    by_cases h10 : m < 10
    · rw [TL.numL_lt h10]
      simp
      omega
    · rw [TL.numL_step (by omega)]
      have := ih (m / 10) (by omega) (by omega)
      rw [List.head?_append]
      cases q : (TL.numL (m / 10)).head? with
      | none => rw [List.head?_eq_none_iff] at q; exact absurd q (TL.numL_ne _)
      | some v => rw [q] at this; simpa using this
/-- the digits of a number of at most k digits -/
def Digs (k : Nat) (a : List Nat) : Prop := a ≠ [] ∧ a.length ≤ k ∧ (∀ c ∈ a, 48 ≤ c ∧ c ≤ 57) ∧ (a.length = 1 ∨ a.head? ≠ some 48)
theorem digs_num {k n : Nat} (h : (TL.numL n).length ≤ k) : Digs k (TL.numL n) := by
  refine ⟨TL.numL_ne n, h, TL.numL_digits n, ?_⟩
  by_cases h0 : n = 0
  · subst h0
    exact .inl (by rw [TL.numL_lt (by omega)]; rfl)
  · exact .inr (numL_head h0)
theorem digs_val {k : Nat} {a : List Nat} (h : Digs k a) : a = TL.numL (NumText.digitsVal a) := by
  obtain ⟨h1, _, h2, h3⟩ := h
  refine (numL_back _ a rfl h2 h1 ?_).symm
  rcases h3 with h3 | h3
  · match a, h3 with
    | [c], _ =>
      by_cases e : c = 48
      · exact .inl (by rw [e])
      · exact .inr (by simpa using e)
  · exact .inr h3
/-! ### two signs by their order -/
theorem ltD_str (x y : Str) : D.ltD (.str x) (.str y) = decide (x.cps.toList < y.cps.toList) := PySem.W.dataLt_str x y
theorem ltD_one {c d : Nat} : D.ltD (.str ⟨#[c]⟩) (.str ⟨#[d]⟩) = decide (c < d) := by
  rw [ltD_str, decide_eq_decide]
  constructor
  · intro h
    rcases List.cons_lt_cons_iff.mp h with h | ⟨_, h⟩
    · exact h
    · exact absurd h (List.lt_irrefl [])
  · intro h
    exact List.cons_lt_cons_iff.mpr (.inl h)
theorem ok_one {c : Nat} (h : c < 128) : okStr ⟨#[c]⟩ = true := by
  have key : ∀ c < 128, okStr ⟨#[c]⟩ = true := by decide +kernel
  exact key c h
theorem cmp_one {c d : Nat} (hc : c < 128) (hd : d < 128) : cmpOk (.str ⟨#[c]⟩) (.str ⟨#[d]⟩) = true := by
  have h1 := ok_one hc
  have h2 := ok_one hd
  simp [cmpOk, D.pl, isNone, D.py, PySem.W.alike, h1, h2]
theorem ge_one {c d : Nat} {Q : D → Prop} (hc : c < 128) (hd : d < 128) : pGe (.str ⟨#[c]⟩) (.str ⟨#[d]⟩) Q ↔ Q (.bl (decide (d ≤ c))) := by
  show (cmpOk _ _ = true ∧ Q (.bl (!D.ltD _ _))) ↔ _
  rw [ltD_one, show (!decide (c < d)) = decide (d ≤ c) by rw [Bool.eq_iff_iff]; simp]
  exact ⟨fun h => h.2, fun h => ⟨cmp_one hc hd, h⟩⟩
theorem lt_one {c d : Nat} {Q : D → Prop} (hc : c < 128) (hd : d < 128) : pLt (.str ⟨#[c]⟩) (.str ⟨#[d]⟩) Q ↔ Q (.bl (decide (c < d))) := by
  show (cmpOk _ _ = true ∧ Q (.bl (D.ltD _ _))) ↔ _
  rw [ltD_one]
  exact ⟨fun h => h.2, fun h => ⟨cmp_one hc hd, h⟩⟩
end Pu

set_option Elab.async false
set_option linter.all false
namespace Pu
open PySem PySem.Spec L2
variable {W : Wd} {E : XK} {Xc : XP}
def pStarts : D → D → (D → Prop) → Prop
  | .str a, .str b, Q => Q (.bl (Txt.startswith a b))
  | _, _, _ => False
theorem pr_startswith : PurR2 W (fun x y => (fun (x : V) (xs : List V) (H : Hp) (Q : VK) => ∃ a b, x = .str a ∧ xs = [.str b] ∧ Q (.bl (Txt.startswith a b)) H) x [y]) pStarts := by
  intro G H x y dx dy Q Q' e f1 f2 k h
  cases f1 <;> first | (exact h.elim) | skip
  cases f2 <;> first | (exact h.elim) | skip
  exact ⟨_, _, rfl, rfl, k _ _ G H (Grow.refl e) (.bl _) h⟩
theorem rd_pStarts {a b : PySem.Str} {Q : D → Prop} : pStarts (.str a) (.str b) Q = Q (.bl (Txt.startswith a b)) := rfl
theorem starts_iff {t b : List Nat} : Txt.startswith (SX.S t) (SX.S b) = decide (b <+: t) := by
  unfold Txt.startswith
  have e := PySem.StrLaws.subAt_eq (SX.S t) (SX.S b) 0
  rw [Bool.eq_iff_iff, Bool.and_eq_true, decide_eq_true_eq, decide_eq_true_eq]
  rw [show Builtin.Str.subAt (SX.S t) (SX.S b) 0 = true ↔ t.take b.length = b from ?_]
  · rw [SX.S_len, SX.S_len]
    constructor
    · rintro ⟨_, h⟩
      rw [← h]
      exact List.take_prefix _ _
    · rintro ⟨r, rfl⟩
      exact ⟨by simp, by simp⟩
  · rw [e, SX.S_len]
    simp [SX.S]
theorem starts_S (a b : List Nat) : Txt.startswith (SX.S (a ++ b)) (SX.S a) = true := by
  rw [starts_iff, decide_eq_true_eq]
  exact List.prefix_append a b
/-! ### order -/
theorem ltD_int {a b : Int} : D.ltD (.int a) (.int b) = decide (a < b) := PySem.W.dataLt_int a b
theorem pLt_of {x y : D} {Q : D → Prop} (h : cmpOk x y = true) : pLt x y Q ↔ Q (.bl (D.ltD x y)) := by
  unfold pLt pCmpD
  split
  · rw [ltD_int]
  · exact ⟨fun q => q.2, fun q => ⟨h, q⟩⟩
theorem cmp_int {a b : Int} : cmpOk (.int a) (.int b) = true := rfl
theorem py_tup {xs : List D} : (D.tup xs).py = .tuple (D.pys xs) := rfl
theorem pys_cons {x : D} {xs : List D} : D.pys (x :: xs) = x.py :: D.pys xs := rfl
theorem srt_tup {ds : List D} (h : ∀ d ∈ ds, D.ok 60 d) (ha : ∀ d ∈ ds, ∀ e ∈ ds, PySem.W.alike d.py e.py = true) (ht : ∀ d ∈ ds, ∃ x r, d = .tup (x :: r)) (hl : ds.length ≤ sizeLine) : SrtOk ds := by
  refine ⟨pls_all.mpr fun d hd => (h d hd).1, nbs_all.mpr fun d hd => (h d hd).2, ?_, .inl ?_, hl⟩
  · rw [pys_map]
    intro d hd e he
    obtain ⟨x, hx, rfl⟩ := List.mem_map.mp hd
    obtain ⟨y, hy, rfl⟩ := List.mem_map.mp he
    exact ha x hx y hy
  · rw [pys_map]
    intro d hd
    obtain ⟨x, hx, rfl⟩ := List.mem_map.mp hd
    obtain ⟨y, r, rfl⟩ := ht x hx
    exact ⟨y.py, D.pys r, rfl⟩
theorem srt_val {ds : List D} (h : ∀ d ∈ ds, D.ok 60 d) (ha : ∀ d ∈ ds, ∀ e ∈ ds, PySem.W.alike d.py e.py = true) (ht : ∀ d ∈ ds, (∃ i, d = .int i) ∨ ∃ x, d = .str x) (hl : ds.length ≤ sizeLine) : SrtOk ds := by
  refine ⟨pls_all.mpr fun d hd => (h d hd).1, nbs_all.mpr fun d hd => (h d hd).2, ?_, .inr ?_, hl⟩
  · rw [pys_map]
    intro d hd e he
    obtain ⟨x, hx, rfl⟩ := List.mem_map.mp hd
    obtain ⟨y, hy, rfl⟩ := List.mem_map.mp he
    exact ha x hx y hy
  · rw [pys_map]
    intro d hd
    obtain ⟨x, hx, rfl⟩ := List.mem_map.mp hd
    rcases ht x hx with ⟨i, rfl⟩ | ⟨y, rfl⟩
    · exact ⟨fun z => (nomatch z), fun xs z => (nomatch z)⟩
    · exact ⟨fun z => (nomatch z), fun xs z => (nomatch z)⟩
theorem sortD_strict {ds : List D} (hs : SrtOk ds) (nd : ds.Nodup) : (sortD ds).Pairwise fun x y => D.ltD x y = true := by
  have h1 := sortD_sorted ds
  have h2 : (sortD ds).Nodup := (sortD_perm ds).nodup_iff.mpr nd
  have h3 := h1.and h2
  refine h3.imp_of_mem ?_
  intro a b ha hb hab
  have ma := sortD_mem.mp ha
  have mb := sortD_mem.mp hb
  have l1 : D.ltD b a = false := by
    have := hab.1
    unfold leD at this
    simpa using this
  cases q : D.ltD a b with
  | true => rfl
  | false =>
    have al := hs.al
    rw [pys_map] at al
    exact absurd (ltD_total (pls_all.mp hs.pl a ma) (pls_all.mp hs.pl b mb) (nbs_all.mp hs.nb a ma) (nbs_all.mp hs.nb b mb) (al _ (List.mem_map.mpr ⟨a, ma, rfl⟩) _ (List.mem_map.mpr ⟨b, mb, rfl⟩)) q l1) hab.2
theorem cmp_ok {x y : D} (h1 : D.ok 60 x) (h2 : D.ok 60 y) (ha : PySem.W.alike x.py y.py = true) (hn : isNone x = false) : cmpOk x y = true := by
  unfold cmpOk
  rw [h1.1, h2.1, ha, hn]
  rfl
end Pu

set_option Elab.async false
set_option linter.all false
namespace Pu
open PySem PySem.Spec L2
variable {g : PTG} {tt : PTT} {te : PTE} {vs : List Nat} {Q : Slot → Env → Prop} {env : Env}
/-- over a list of shown things: those that are kept, as they are made -/
theorem comp_some {α : Type} (f : α → D) (o : α → Option D) {xs : List α} (hl : xs.length ≤ sizeLine)
    (h : ∀ x ∈ xs, ∀ K : Option D → Env → Prop, K (o x) env → g (f x) env fun e1 => tt e1 fun b e2 => if b = true then te e2 fun y e3 => K (some y) (wipeE e3 vs) else K none (wipeE e2 vs))
    (q : Q (.own (.lst (xs.filterMap o))) env) : ∃ I : Nat → List D → Env → Prop, I 0 [] env ∧ compOk g tt te vs Q (xs.map f) I := by
  refine ⟨fun i acc e => e = env ∧ acc = (xs.take i).filterMap o, ⟨rfl, rfl⟩, ?_⟩
  rintro i acc e ⟨rfl, rfl⟩
  refine ⟨fun d hd => ?_, fun hi => ?_⟩
  · rw [List.getElem?_map] at hd
    cases hx : xs[i]? with
    | none => rw [hx] at hd; cases hd
    | some x =>
      rw [hx] at hd
      cases hd
      obtain ⟨hi, h2⟩ := List.getElem?_eq_some_iff.mp hx
      have hm : x ∈ xs := h2 ▸ List.getElem_mem hi
      have hlt : ((xs.take i).filterMap o).length < sizeLine := by
        have := List.length_filterMap_le o (xs.take i)
        rw [List.length_take] at this
        omega
      have ht : xs.take (i + 1) = xs.take i ++ [x] := by rw [List.take_succ, hx]; rfl
      refine h x hm (fun u e' => match u with
        | some y => ((xs.take i).filterMap o).length < sizeLine ∧ e' = e ∧ (xs.take i).filterMap o ++ [y] = (xs.take (i + 1)).filterMap o
        | none => e' = e ∧ (xs.take i).filterMap o = (xs.take (i + 1)).filterMap o) ?_
      cases ho : o x with
      | none => exact ⟨rfl, by rw [ht, List.filterMap_append]; simp [ho]⟩
      | some y => exact ⟨hlt, rfl, by rw [ht, List.filterMap_append]; simp [ho]⟩
  · rw [List.length_map] at hi
    subst hi
    rw [List.take_length]
    exact q
theorem comp_of {α : Type} (f m : α → D) {xs : List α} (hl : xs.length ≤ sizeLine)
    (h : ∀ x ∈ xs, ∀ K : D → Env → Prop, K (m x) env → g (f x) env fun e1 => te e1 fun y e3 => K y (wipeE e3 vs))
    (q : Q (.own (.lst (xs.map m))) env) : ∃ I : Nat → List D → Env → Prop, I 0 [] env ∧ compOk g tYes' te vs Q (xs.map f) I := by
  refine comp_some f (fun x => some (m x)) hl (fun x hx K k => ?_) (by rw [List.filterMap_eq_map']; exact q)
  simp only [tYes', if_true]
  exact h x hx (fun y e => K (some y) e) k
theorem comp_keep {α : Type} (f : α → D) (p : α → Bool) {xs : List α} (hl : xs.length ≤ sizeLine)
    (h : ∀ x ∈ xs, ∀ K : Option D → Env → Prop, (p x = true → K (some (f x)) env) → (p x = false → K none env) → g (f x) env fun e1 => tt e1 fun b e2 => if b = true then te e2 fun y e3 => K (some y) (wipeE e3 vs) else K none (wipeE e2 vs))
    (q : Q (.own (.lst ((xs.filter p).map f))) env) : ∃ I : Nat → List D → Env → Prop, I 0 [] env ∧ compOk g tt te vs Q (xs.map f) I := by
  refine comp_some f (fun x => if p x = true then some (f x) else none) hl (fun x hx K k => ?_) ?_
  · refine h x hx K (fun e => ?_) (fun e => ?_)
    · rw [if_pos e] at k; exact k
    · rw [if_neg (by rw [e]; simp)] at k; exact k
  · have e : xs.filterMap (fun x => if p x = true then some (f x) else none) = (xs.filter p).map f := by
      clear q h hl
      induction xs with
      | nil => rfl
      | cons c r ih =>
        rw [List.filterMap_cons, ih, List.filter_cons]
        cases hp : p c <;> simp
    rw [e]
    exact q
theorem gt_one {c d : Nat} {Q : D → Prop} (hc : c < 128) (hd : d < 128) : pGt (.str ⟨#[c]⟩) (.str ⟨#[d]⟩) Q ↔ Q (.bl (decide (d < c))) := by
  show (cmpOk _ _ = true ∧ Q (.bl (D.ltD _ _))) ↔ _
  rw [ltD_one]
  exact ⟨fun h => h.2, fun h => ⟨cmp_one hc hd, h⟩⟩
theorem alike_ints : ∀ (a b : List Nat), PySem.W.alikeAll (D.pys (a.map fun m : Nat => D.int m)) (D.pys (b.map fun m : Nat => D.int m)) = true
  | [], _ => by simp [D.pys, PySem.W.alikeAll]
  | _ :: _, [] => by simp [D.pys, PySem.W.alikeAll]
  | x :: xs, y :: ys => by
    have := alike_ints xs ys
    simp only [List.map_cons, D.pys, D.py, PySem.W.alikeAll, PySem.W.alike, this, Bool.and_self]
theorem rd_f1 {p : D → (List D → Prop) → Prop} {d : D} {R : List D → Prop} : f1 p [d] R = p d R := rfl
theorem rd_pSort {ds : List D} {R : List D → Prop} : pSort (.lst ds) R = (SrtOk ds ∧ R (sortD ds)) := rfl
theorem rd_pSortD {ks ds : List D} {R : List D → Prop} : pSort (.dct ks ds) R = (SrtOk ks ∧ R (sortD ks)) := rfl
theorem rd_oF {pf : PQA} {e : Env} {R : Slot → Env → Prop} : oF pf e R = pf e fun ds => flats ds = true ∧ R (.own (.lst ds)) e := rfl
theorem rd_qF {pf : PQA} {e : Env} {R : D → Prop} : qF pf e R = pf e fun ds => R (.lst ds) := rfl
theorem rd_fCB {p : List D → (List D → Prop) → Prop} {a : PQA} {e : Env} {R : List D → Prop} : fCB p a e R = a e fun ds => p ds R := rfl
theorem flats_all : ∀ {ds : List D}, flats ds = true ↔ ∀ d ∈ ds, flat d = true
  | [] => by simp [flats]
  | d :: ds => by simp [flats, flats_all]
end Pu

set_option Elab.async false
set_option linter.all false
namespace Pu
open PySem PySem.Spec L2
theorem toNat_inj {x y : Char} (h : x.toNat = y.toNat) : x = y := Char.ext (UInt32.toNat_inj.mp h)
theorem ofString_inj {a b : String} : Str.ofString a = Str.ofString b ↔ a = b := by
  constructor
  · intro h
    rw [Str.ofString_eq_toList, Str.ofString_eq_toList] at h
    have h1 : a.toList.map Char.toNat = b.toList.map Char.toNat := by
      have := congrArg (fun s : Str => s.cps.toList) h
      simpa using this
    exact String.ext ((List.map_inj_right (f := Char.toNat) (fun x y h => toNat_inj h)).mp h1)
  · rintro rfl; rfl
theorem at_4 {α : Type} {x y z u v : α} {xs : List α} : atI (x :: y :: z :: u :: v :: xs) 4 = some v := atI_nat (n := 4) rfl
theorem at_5 {α : Type} {x y z u v w : α} {xs : List α} : atI (x :: y :: z :: u :: v :: w :: xs) 5 = some w := atI_nat (n := 5) rfl
/-! ### a new list from two -/
section
variable {W : Wd} {E : XK} {Xc : XP} {ta tb : TE} {pa pb : PTE}
def catD : D → D → (List D → Prop) → Prop
  | .lst xs, .lst ys, Q => xs.length + ys.length ≤ sizeLine ∧ Q (xs ++ ys)
  | _, _, _ => False
def oPlus (pa pb : PTE) : PTO := fun env Q => pa env fun x e1 => pb e1 fun y e2 => catD x y fun zs => Q (.own (.lst zs)) e2
theorem puro_plus (ha : PurE W E Xc ta pa) (hb : PurE W E Xc tb pb) : PurO W E Xc (tOp (rPlus W.K) ta tb) (oPlus pa pb) := by
  intro Z σ0 H G σ env φ Q Q' e x k h
  refine ha Z σ0 H G σ env φ _ _ e x (fun v1 d1 H1 G1 e1 p1 t1 r1 f1 q1 => ?_) h
  refine hb Z σ0 H1 G1 σ e1 p1 _ _ r1 (x.ext t1) (fun v2 d2 H2 G2 e2 p2 t2 r2 f2 q2 => ?_) q1
  unfold catD at q2
  split at q2
  · cases f1 with
    | @lst a us as ha ta =>
    cases f2 with
    | @lst b ws bs hb tb =>
    obtain ⟨hl, q⟩ := q2
    refine .inr (.inr (.inl ⟨_, _, _, _, rfl, rfl, r2.gh _ _ (t2.g _ _ ha), r2.gh _ _ hb, by rw [ta.length, tb.length]; exact hl, fun p hp => ?_⟩))
    obtain ⟨r3, t3, d1, d2, d3, d4⟩ := r2.ownNew (o := .lst (us ++ ws)) hp
    exact k _ (.own (.lst _)) _ _ _ _ _ ((t1.trans t2).trans t3) r3 ⟨.lst one_same ((ta.mono t2.g).append tb), d1, d2, d3, d4⟩ q
  · exact q2.elim
theorem rd_cat {xs ys : List D} {R : List D → Prop} : catD (.lst xs) (.lst ys) R = (xs.length + ys.length ≤ sizeLine ∧ R (xs ++ ys)) := rfl
end
end Pu

set_option Elab.async false
set_option linter.all false
set_option maxRecDepth 100000
namespace Pu
open PySem PySem.Spec L2
/-! ### places: a name's own thing, looked into -/
abbrev PPl := Env → (Nat → List Nat → T → Prop) → Prop
def kidN : T → D → Option Nat
  | .lst ts, .int j => ixN ts.length j
  | .dct _ ks _, k => if D.kk k && sameK k ks then posD ks k else none
  | _, _ => none
theorem kid_dct {l : Option Obj} {ks : List D} {ts : List T} {k : D} : kidN (.dct l ks ts) k = if D.kk k && sameK k ks then posD ks k else none := by
  cases k <;> rfl
theorem kid_lst {ts : List T} {j : Int} : kidN (.lst ts) (.int j) = ixN ts.length j := rfl
theorem kpF_idem {F : Hp} : kpF (kpF F) = kpF F := by
  funext b
  unfold kpF
  cases F b with
  | none => rfl
  | some o => by_cases h : hard o = true <;> simp [h]
section
variable {W : Wd} {E : XK} {Xc : XP} {te tq tp : TE} {pe : PTE} {pq : PQE} {pl : PPl} {G F : Hp} {v0 v : V} {t0 t : T} {p : List Nat} {F1 : Hp}
theorem Foc.mono {G' : Hp} (g : Same G G') (f : Foc W G F v0 t0 p v F1 t) : Foc W G' F v0 t0 p v F1 t :=
  ⟨f.nd, f.tr.mono g, f.sub, fun G2 F2 t2 h q d => f.put G2 F2 t2 (g.trans h) q d⟩
def PurPl (W : Wd) (E : XK) (Xc : XP) (te : TE) (pp : PPl) : Prop :=
  ∀ Z σ0 H G σ env φ (Q : VK) (Q' : Nat → List Nat → T → Prop), ER W Z σ0 H G σ env φ → XOk W Z G H E Xc →
    (∀ i s t0 v0 p v F1 t G' H', Ext Z G H G' H' → ER W Z σ0 H' G' σ env (fun j => kpF (φ j)) → env[i]? = some s → treS s = some t0 → σ[i]? = some (some v0) → Foc W G' (kpF (φ i)) v0 t0 p v F1 t → Q' i p t → Q v H') →
    pp env Q' → te σ H Q
def plVar (i : Nat) : PPl := fun env Q => ∃ s t, env[i]? = some s ∧ treS s = some t ∧ Q i [] t
theorem purpl_var {i : Nat} : PurPl W E Xc (tVar i) (plVar i) := by
  intro Z σ0 H G σ env φ Q Q' e x k ⟨s, t, hs, ht, q⟩
  obtain ⟨v, hv, tr⟩ := e.kp.tre hs ht
  exact ⟨v, hv, k i s t v [] v _ t G H (Ext.refl) e.kp hs ht hv (Foc.root tr) q⟩
def plIx (pl : PPl) (pq : PQE) : PPl := fun env Q => pl env fun i p t => pq env fun d => ∃ n u, kidN t d = some n ∧ t.kids[n]? = some u ∧ Q i (p ++ [n]) u
theorem purpl_ix (h : PurPl W E Xc tp pl) (hq : PurQ W E Xc tq pq) : PurPl W E Xc (tOp (rIxA W) tp tq) (plIx pl pq) := by
  intro Z σ0 H G σ env φ Q Q' e x k hp
  refine h Z σ0 H G σ env φ _ _ e x (fun i s t0 v0 p v F1 t G1 H1 t1 r1 hs ht hv f q1 => ?_) hp
  refine hq _ H1 σ env _ _ r1.vw (XOk.view r1 (x.ext t1)) (fun y d Γ' H2 g fy q2 => ?_) q1
  obtain ⟨n, u, hn, hu, q3⟩ := q2
  obtain ⟨t2, r2⟩ := r1.out g
  simp only [kpF_idem] at r2
  have f2 := f.mono t2.g
  obtain ⟨a, v1, F3, rfl, h1, h2, h3, h4⟩ := f2.tr.kid hu
  have fin := k i s t0 v0 (p ++ [n]) v1 F3 u _ H2 (t1.trans t2) r2 hs ht hv (f2.step hu h1 h2 h3) q3
  have sub : Same F1 H2 := f2.sub.trans (r2.sub i)
  rcases h4 with ⟨vs, ts, rfl, ha, hl, hk⟩ | ⟨od, l, ks, kv, vv, ts, rfl, ha, hdk, hfk, hk⟩ | ⟨C, dx, fs, ns, ts, rfl, _, _, _⟩
  · cases d <;> first | (cases hn; done) | skip
    cases fy
    refine .inl (.inl ⟨a, vs, _, v1, rfl, rfl, SqL.of (sub _ _ ha), ?_, fin⟩)
    unfold atI
    rw [hl, show ixN ts.length _ = some n from hn]
    exact hk
  · rw [kid_dct] at hn
    split at hn
    · rename_i hkk
      rw [Bool.and_eq_true] at hkk
      refine .inr ⟨a, od, ks, kv, vv, d, v1, rfl, ⟨sub _ _ ha, hdk, hfk.mono r2.gh⟩, ⟨fy.mono g.gh, hkk.1, hkk.2⟩, ?_, fin⟩
      unfold atVv
      rw [hn]
      exact hk
    · cases hn
  · cases hn
/-! ### a place is set -/
def rSetA (W : Wd) : TSet := fun o i v H Q => rSetL o i v H Q ∨ tDSet W o i v H Q
theorem set_all {X : Cx} (hu : X.A.units + 65 < cLine) : PSet X (rSetA (xd X)) := by
  intro pins s σ H o i v ov iv u Q I ro ri rv h
  rcases h with h | h
  · exact set_list pins s σ H o i v ov iv u Q I ro ri rv h
  · exact set_dict hu pins s σ H o i v ov iv u Q I ro ri rv h
def putN : T → D → T → Option T
  | .lst ts, .int j, x => (ixN ts.length j).map fun n => .lst (ts.set n x)
  | .dct _ ks ts, k, x => if (D.kk k && sameK k ks && flat k && decide (ks.length < 16777216)) = true then some (.dct none (putKs ks k) (putVv ks k ts x)) else none
  | _, _, _ => none
theorem put_dct {l : Option Obj} {ks : List D} {ts : List T} {k : D} {x : T} : putN (.dct l ks ts) k x = if (D.kk k && sameK k ks && flat k && decide (ks.length < 16777216)) = true then some (.dct none (putKs ks k) (putVv ks k ts x)) else none := by
  cases k <;> rfl
def sPut (pe : PTE) (pl : PPl) (pq : PQE) : PTS := fun D env => pe env fun d e1 => pl e1 fun i p t => pq e1 fun k => ∃ s t0 t2, e1[i]? = some s ∧ treS s = some t0 ∧ putN t k (.leaf d) = some t2 ∧ D.nx (e1.set i (setT s (t0.put p t2)))
theorem putVv_trs {F : Hp} {ks : List D} {vv : List V} {ts : List T} {k : D} {v : V} {d : D} (h : TRs W G F vv ts) (f : FR W G v d) : ∃ F', TRs W G F' (putVv ks k vv v) (putVv ks k ts (.leaf d)) ∧ Same F' F := by
  unfold putVv
  cases posD ks k with
  | some n =>
    obtain ⟨F', h1, h2⟩ := TRs.setN (TR.leaf f) n h (fun b => .inr rfl)
    rw [un_emp] at h2
    exact ⟨F', h1, h2⟩
  | none =>
    have := TRs.snoc (TR.leaf f) h (fun b => .inr rfl)
    rw [un_emp] at this
    exact ⟨F, this, Same.refl _⟩
theorem purs_put (he : PurE W E Xc te pe) (hp : PurPl W E Xc tp pl) (hq : PurQ W E Xc tq pq) : PurS W E Xc (tAsg te (gSub tp tq (rSetA W))) (sPut pe pl pq) := by
  intro Z σ0 H G σ env φ L L' e x k q
  refine he Z σ0 H G σ env φ _ _ e x (fun v d H1 G1 e1 p1 t1 r1 f1 q1 => ?_) q
  refine hp Z σ0 H1 G1 σ e1 p1 _ _ r1 (x.ext t1) (fun i s t0 v0 p w F1 t G2 H2 t2 r2 hs ht hv f q2 => ?_) q1
  refine hq _ H2 σ e1 _ _ r2.vw (XOk.view r2 ((x.ext t1).ext t2)) (fun y kd Γ' H3 g fy q3 => ?_) q2
  obtain ⟨s', t0', tn, hs', ht', hn, q4⟩ := q3
  rw [hs] at hs'
  cases hs'
  rw [ht] at ht'
  cases ht'
  obtain ⟨t3, r3⟩ := r2.out g
  simp only [kpF_idem] at r3
  have f3 := f.mono t3.g
  have fv := (f1.mono t2.g).mono t3.g
  have sub : Same F1 H3 := f3.sub.trans (r3.sub i)
  cases t with
  | leaf d => cases hn
  | obj C ns ts => cases hn
  | lst ts =>
    cases kd <;> first | (cases hn; done) | skip
    rename_i j
    cases fy
    obtain ⟨a, vs, rfl, ha, h2, hm⟩ := r3.mutLn hs ht hv f3
    have hn' : (ixN ts.length j).map (fun n => T.lst (ts.set n (.leaf d))) = some tn := hn
    cases hj : ixN ts.length j with
    | none => rw [hj] at hn'; cases hn'
    | some n =>
      rw [hj] at hn'
      cases hn'
      obtain ⟨F', h3, h4⟩ := TRs.setN (TR.leaf fv) n h2 (fun b => .inr rfl)
      rw [un_emp] at h4
      obtain ⟨φ', t4, r4⟩ := hm _ _ F' h3 (fun b hb => .inl (by
        cases z : F' b with
        | none => exact absurd z hb
        | some o => exact ne_none_of (h4 b o z))) ((h4.trans del_sub).trans sub)
      exact .inl ⟨a, vs, j, n, rfl, rfl, ha, by rw [h2.len]; exact hj, k.nx _ _ _ _ _ (((t1.trans t2).trans t3).trans t4) r4 q4⟩
  | dct l ks ts =>
    rw [put_dct] at hn
    split at hn
    · rename_i hk
      cases hn
      simp only [Bool.and_eq_true, decide_eq_true_eq] at hk
      obtain ⟨⟨⟨k1, k2⟩, k3⟩, k4⟩ := hk
      obtain ⟨a, od, kv, vv, rfl, hdc, hfk, h2, hm⟩ := r3.mutDn hs ht hv f3
      have fy' : FR W _ y kd := fy.flat r2 g k3
      obtain ⟨F', h3, h4⟩ := putVv_trs (ks := ks) (k := kd) h2 fv
      refine .inr ⟨a, od, ks, kv, vv, kd, rfl, hdc, ⟨fy.mono g.gh, k1, k2⟩, by have := big; omega, fun od' hd' => ?_⟩
      obtain ⟨φ', t4, r4⟩ := hm od' _ _ _ _ F' hd' (putKv_frs hfk fy') h3 (fun b hb => .inl (by
        cases z : F' b with
        | none => exact absurd z hb
        | some o => exact ne_none_of (h4 b o z))) ((h4.trans del_sub).trans sub)
      exact k.nx _ _ _ _ _ (((t1.trans t2).trans t3).trans t4) r4 q4
    · cases hn
end
end Pu

set_option Elab.async false
set_option linter.all false
set_option maxRecDepth 100000
namespace Pu
open PySem PySem.Spec L2
/-! ### a list of things of one's own -/
def slT : Slot → Option T
  | .frz d => some (.leaf d)
  | .own (.lst ds) => some (.lst (ds.map .leaf))
  | .tre t => some t
  | _ => none
section
variable {W : Wd} {E : XK} {Xc : XP} {te : TE} {tt : TT} {pt : PTT} {po : PTO} {Z : Addr → Prop} {σ0 : L2.St} {H G H' G' : Hp} {σ : L2.St} {env : Env} {φ : Nat → Hp}
theorem RR.toT {v : V} {F : Hp} {s : Slot} {t : T} (h : RR W Z H G φ v F s) (ht : slT s = some t) :
    ∃ F', TR W G F' v t ∧ Dis G F' ∧ (∀ i, Dis (φ i) F') ∧ Same F' H ∧ ∀ b, F' b ≠ none → Z b := by
  cases s <;> first | (cases ht; done) | skip
  · cases ht
    exact ⟨emp, .leaf h, fun b => .inr rfl, fun i b => .inr rfl, fun b o z => (nomatch z), fun b z => absurd rfl z⟩
  · rename_i d
    cases d <;> first | (cases ht; done) | skip
    cases ht
    obtain ⟨h1, h2, h3, h4, h5⟩ := h
    cases h1 with
    | @lst a vs ds ha hf =>
      have sub : Same (one a (.lst vs)) F := fun b o hb => by
        by_cases e : b = a
        · subst e; rw [one_same] at hb; rw [ha]; exact hb
        · rw [one_ne e] at hb; cases hb
      refine ⟨one a (.lst vs), .lst one_same ?_, h2.subR sub, fun i => (h3 i).subR sub, sub.trans h4, fun b hb => h5 b ?_⟩
      · rw [del_one]; exact trs_leaf hf
      · cases z : one a (.lst vs) b with
        | none => exact absurd z hb
        | some o => exact ne_none_of (sub b o z)
  · cases ht
    exact ⟨F, h⟩
def compTOk (g : PTG) (tt : PTT) (te : PTO) (vs : List Nat) (Q : Slot → Env → Prop) (ds : List D) (I : Nat → List T → Env → Prop) : Prop := ∀ i acc e, I i acc e →
  (∀ d, ds[i]? = some d → g d e fun e1 => tt e1 fun b e2 => if b = true then te e2 fun s e3 => ∃ t, slT s = some t ∧ acc.length < sizeLine ∧ I (i + 1) (acc ++ [t]) (wipeE e3 vs) else I (i + 1) acc (wipeE e2 vs)) ∧ (i = ds.length → Q (.tre (.lst acc)) e)
def oCompT (pi : PTA) (g : PTG) (tt : PTT) (te : PTO) (vs : List Nat) : PTO := fun env Q => pi env fun ds e1 => ∃ I : Nat → List T → Env → Prop, I 0 [] (wipeE e1 vs) ∧ compTOk g tt te vs Q ds I
theorem puro_lcT {wi : TI} {pi : PTA} {g : TG} {p : PTG} {vs : List Nat} (hi : PurI W E Xc wi pi) (hg : PurG W g p) (hin : TgIn g vs) (ht : PurT W E Xc tt pt) (he : PurO W E Xc te po) :
    PurO W E Xc (tLc wi g tt te vs) (oCompT pi p pt po vs) := by
  intro Z σ0 H G σ env φ Q Q' e x k q
  refine hi Z σ0 H G σ env φ _ _ e x (fun J ds H1 G1 e1 p1 t1 r1 it q1 => ?_) q
  obtain ⟨I, I0, st⟩ := q1
  intro Dd hD
  have zD : Z Dd := r1.zn Dd hD
  have hG1 : G1 Dd = none := r1.gh.free hD
  let Zf : Hp → Addr → Prop := fun Fa b => Z b ∧ b ≠ Dd ∧ Fa b = none
  have zz : ∀ Fa b, Zf Fa b → Z b := fun Fa b h => h.1
  have r1' : ER W (Zf emp) σ0 (upd H1 Dd (.lst [])) G1 σ e1 p1 := by
    have r := r1.growH (same_upd (o := .lst []) hD)
    refine ⟨r.len, r.sl, r.dis, r.dg, r.sub, r.gh, fun b h => ⟨r.zn b h, fun z => ?_, rfl⟩, fun i b h => ⟨r.zs i b h, fun z => ?_, rfl⟩⟩
    · subst z; rw [upd_same] at h; cases h
    · subst z
      exact h ((r1.sub i).free hD)
  let Iv : Nat → Hp → Prop := fun i Hh => ∃ Gg ev pv acc us Fa, Ext Z G1 H1 Gg Hh ∧ Same G1 Gg ∧ Gg Dd = none ∧ Hh Dd = some (.lst us) ∧ TRs W Gg Fa us acc ∧ Same Fa Hh ∧ (∀ b, Fa b ≠ none → Z b ∧ b ≠ Dd ∧ Gg b = none) ∧
    ER W (Zf Fa) σ0 Hh Gg (L2.wipe σ vs) (wipeE ev vs) pv ∧ I i acc (wipeE ev vs)
  refine ⟨fun i m Hh => m = ds.length - i ∧ i ≤ ds.length ∧ Iv i Hh,
    ⟨ds.length, by simp, Nat.zero_le _, G1, e1, p1, [], [], emp, ⟨Same.refl _, fun _ _ h => .inl h, fun b o h hn => same_upd hD b o h⟩, Same.refl _, hG1, upd_same, .nil, fun b o z => (nomatch z), fun b z => absurd rfl z, r1'.wipe vs, I0⟩, ?_⟩
  rintro i m Hh ⟨rfl, hle, Gg, ev, pv, acc, us, Fa, t2, sg, hGd, hHd, fr, fa, fz, r2, q2⟩
  obtain ⟨i1, i2, i3⟩ := it Gg sg
  by_cases hlt : i < ds.length
  · refine .inr ⟨i2 i Hh r2.gh hlt, Iv (i + 1), fun H' h => ⟨ds.length - (i + 1), by omega, rfl, hlt, h⟩, fun y H3 hy => ?_⟩
    have q2 := (st i acc _ q2).1 _ (List.getElem?_eq_getElem hlt)
    obtain ⟨G3, g3, f3⟩ := i3 i ds[i] Hh y H3 r2.gh (List.getElem?_eq_getElem hlt) hy
    obtain ⟨r3, t3⟩ := r2.grow g3
    have nOut : ∀ {Ga Ha Gb Hb : Hp} (b : Addr), Ext (Zf Fa) Ga Ha Gb Hb → Ga b = none → ¬ Zf Fa b → Gb b = none := fun {Ga Ha Gb Hb} b t h n => by
      cases z : Gb b with
      | none => rfl
      | some u =>
        rcases t.gz b u z with w | w
        · rw [h] at w; cases w
        · exact absurd w n
    have nDd : ¬ Zf Fa Dd := fun z => z.2.1 rfl
    have nFa : ∀ b, Fa b ≠ none → ¬ Zf Fa b := fun b hb z => hb z.2.2
    have hG3 : G3 Dd = none := nOut Dd t3 hGd nDd
    have hH3 : H3 Dd = some (.lst us) := g3.h _ _ hHd
    have fr3 := fr.mono g3.g
    have fa3 : Same Fa H3 := fa.trans g3.h
    have fz3 : ∀ b, Fa b ≠ none → Z b ∧ b ≠ Dd ∧ G3 b = none := fun b hb => ⟨(fz b hb).1, (fz b hb).2.1, nOut b t3 (fz b hb).2.2 (nFa b hb)⟩
    have x3 : XOk W (Zf Fa) G3 H3 E Xc := ((x.ext t1).ext (t2.trans (t3.weak (zz Fa)))).zone (zz Fa)
    refine hin σ y (L2.wipe σ vs) H3 (fun σ2 H2 => ∃ env' φ', ER W (Zf Fa) σ0 H3 G3 σ2 env' φ' ∧ (pt env' fun b e2 => if b = true then po e2 fun s e3 => ∃ t, slT s = some t ∧ acc.length < sizeLine ∧ I (i + 1) (acc ++ [t]) (wipeE e3 vs) else I (i + 1) acc (wipeE e2 vs))) _ wipe_wipe
      (fun σ2 hw ⟨env', φ', r4, q4⟩ => ⟨hw, ?_⟩) (hg (Zf Fa) σ0 H3 G3 (L2.wipe σ vs) (wipeE ev vs) pv y ds[i] _ _ r3 f3 (fun σ' env' φ' r q => ⟨env', φ', r, q⟩) q2)
    refine ht (Zf Fa) σ0 H3 G3 σ2 env' φ' _ _ r4 x3 (fun b H4 G4 e4 p4 t4 r5 q5 => ?_) q4
    have hG4 := nOut Dd t4 hG3 nDd
    have hH4 : H4 Dd = some (.lst us) := t4.hz _ _ hH3 nDd
    have fr4 := fr3.mono t4.g
    have fa4 : Same Fa H4 := fun b o hb => t4.hz b o (fa3 b o hb) (nFa b (ne_none_of hb))
    have fz4 : ∀ b, Fa b ≠ none → Z b ∧ b ≠ Dd ∧ G4 b = none := fun b hb => ⟨(fz b hb).1, (fz b hb).2.1, nOut b t4 (fz3 b hb).2.2 (nFa b hb)⟩
    have tt4 : Ext Z G1 H1 G4 H4 := (t2.trans (t3.weak (zz Fa))).trans (t4.weak (zz Fa))
    cases b with
    | false =>
      rw [if_neg Bool.false_ne_true] at q5 ⊢
      exact ⟨G4, e4, p4, acc, us, Fa, tt4, (sg.trans t3.g).trans t4.g, hG4, hH4, fr4, fa4, fz4, r5.reWipe hw, q5⟩
    | true =>
      rw [if_pos rfl] at q5 ⊢
      refine he (Zf Fa) σ0 H4 G4 σ2 e4 p4 _ _ r5 (x3.ext t4) (fun v s Fs H5 G5 e5 p5 t5 r6 f6 q6 => ?_) q5
      obtain ⟨u, hu, hlen, q7⟩ := q6
      obtain ⟨F', tr, d1, d2, d3, d4⟩ := f6.toT hu
      have hG5 := nOut Dd t5 hG4 nDd
      have hH5 : H5 Dd = some (.lst us) := t5.hz _ _ hH4 nDd
      have fr5 := fr4.mono t5.g
      have fa5 : Same Fa H5 := fun b o hb => t5.hz b o (fa4 b o hb) (nFa b (ne_none_of hb))
      have fz5 : ∀ b, Fa b ≠ none → Z b ∧ b ≠ Dd ∧ G5 b = none := fun b hb => ⟨(fz b hb).1, (fz b hb).2.1, nOut b t5 (fz4 b hb).2.2 (nFa b hb)⟩
      have dd : Dis Fa F' := fun b => by
        cases z : F' b with
        | none => exact .inr rfl
        | some o => exact .inl (d4 b (ne_none_of z)).2.2
      have sn := TRs.snoc tr fr5 dd
      have r7 : ER W (Zf (un Fa F')) σ0 H5 G5 σ2 e5 p5 := by
        refine ⟨r6.len, r6.sl, r6.dis, r6.dg, r6.sub, r6.gh, fun b h => ?_, fun j b h => ?_⟩
        · have z := r6.zn b h
          refine ⟨z.1, z.2.1, ?_⟩
          unfold un
          rw [z.2.2]
          cases y : F' b with
          | none => rfl
          | some o => rw [d3 b o y] at h; cases h
        · have z := r6.zs j b h
          refine ⟨z.1, z.2.1, ?_⟩
          unfold un
          rw [z.2.2]
          exact (d2 j b).resolve_left h
      refine ⟨us, hH5, by rw [fr.len]; exact hlen, G5, e5, p5, acc ++ [u], us ++ [v], un Fa F', (tt4.trans (t5.weak (zz Fa))).trans ⟨Same.refl _, fun _ _ h => .inl h, fun b o h hn => ?_⟩, ((sg.trans t3.g).trans t4.g).trans t5.g, hG5, upd_same, sn, fun b o hb => ?_, fun b hb => ?_, (r7.reWipe hw).updOut (fun z => z.2.1 rfl) hG5, q7⟩
      · rw [upd_ne (fun z => hn (by rw [z]; exact zD))]
        exact h
      · rcases un_cases hb with hb | ⟨_, hb⟩
        · rw [upd_ne (fz5 b (ne_none_of hb)).2.1]; exact fa5 b o hb
        · rw [upd_ne (d4 b (ne_none_of hb)).2.1]; exact d3 b o hb
      · by_cases z : Fa b = none
        · have : F' b ≠ none := fun y => hb (none_un z y)
          exact ⟨(d4 b this).1, (d4 b this).2.1, (d1 b).resolve_right this⟩
        · exact fz5 b z
  · refine .inl ⟨i1 i Hh r2.gh (by omega), ?_⟩
    have q2 := (st i acc _ q2).2 (by omega)
    have r3 : ER W Z σ0 Hh Gg σ (wipeE ev vs) pv := by
      have r := r2.unwipe
      exact ⟨r.len, r.sl, r.dis, r.dg, r.sub, r.gh, fun b h => (r.zn b h).1, fun i b h => (r.zs i b h).1⟩
    have FD : Fa Dd = none := by
      cases z : Fa Dd with
      | none => rfl
      | some o => exact absurd rfl (fz Dd (ne_none_of z)).2.1
    have dl : del (un (one Dd (.lst us)) Fa) Dd = Fa := by
      funext b
      by_cases hb : b = Dd
      · subst hb; rw [del_same, FD]
      · rw [del_ne hb]; unfold un; rw [one_ne hb]
    refine k (.ref Dd) (.tre (.lst acc)) (un (one Dd (.lst us)) Fa) Hh Gg (wipeE ev vs) pv (t1.trans t2) r3 ⟨.lst (un_l Dd _ one_same) (by rw [dl]; exact fr), fun b => ?_, fun j b => ?_, fun b o h => ?_, fun b h => ?_⟩ q2
    · by_cases hb : b = Dd
      · subst hb; exact .inl hGd
      · cases z : Fa b with
        | none => exact .inr (none_un (one_ne hb) z)
        | some o => exact .inl (fz b (ne_none_of z)).2.2
    · cases z : pv j b with
      | none => exact .inl rfl
      | some u =>
        have y := r2.zs j b (ne_none_of z)
        exact .inr (none_un (one_ne y.2.1) y.2.2)
    · rcases un_cases h with h | ⟨_, h⟩
      · by_cases hb : b = Dd
        · subst hb; rw [one_same] at h; rw [hHd]; exact h
        · rw [one_ne hb] at h; cases h
      · exact fa b o h
    · by_cases hb : b = Dd
      · subst hb; exact zD
      · refine (fz b fun z => h (none_un (one_ne hb) z)).1
end
end Pu

set_option Elab.async false
set_option linter.all false
set_option maxRecDepth 100000
namespace Pu
open PySem PySem.Spec L2
section
variable {W : Wd} {E : XK} {Xc : XP} {te ta tb : TE} {pe pa pb : PTE}
/-! ### range(i, j, -1) -/
def rngD (lo : Int) (n : Nat) : List D := (List.range n).map fun (k : Nat) => D.int (lo - (k : Int))
def iR3 (pa : PTA) : PTA := fun env Q => pa env fun ds e1 => match ds with
  | [.int i, .int j, .int c] => c = -1 ∧ (-(2 ^ 62) ≤ i ∧ i < 2 ^ 62 ∧ -(2 ^ 62) ≤ j ∧ j < 2 ^ 62) ∧ Q (rngD i (i - j).toNat) e1
  | _ => False
theorem frs3 {G : Hp} {vs : List V} {d d2 d3 : D} (f : FRs W G vs [d, d2, d3]) : ∃ v v2 v3, vs = [v, v2, v3] ∧ FR W G v d ∧ FR W G v2 d2 ∧ FR W G v3 d3 := by
  cases f with
  | cons h t => obtain ⟨a, b, rfl, h2, h3⟩ := frs2 t; exact ⟨_, _, _, rfl, h, h2, h3⟩
theorem it_rngD {G : Hp} {lo : Int} {n : Nat} : IT W G (Itc lo (-1) n) (rngD lo n) := by
  refine ⟨fun i H e hi => (show n ≤ i by simpa [rngD] using hi), fun i H e hi => (show i < n by simpa [rngD] using hi), fun i d H x H' e hd hy => ?_⟩
  obtain ⟨rfl, rfl⟩ := hy
  have hi : i < n := by
    have := (List.getElem?_eq_some_iff.mp hd).1
    simpa [rngD] using this
  have : d = .int (lo - i) := by
    have e2 : (rngD lo n)[i]? = some (.int (lo - i)) := by simp [rngD, hi]
    rw [e2] at hd
    exact (Option.some.inj hd).symm
  subst this
  refine ⟨G, Grow.refl e, ?_⟩
  rw [show lo + (i : Nat) * (-1 : Int) = lo - i by omega]
  exact .int _
theorem puri_r3 {t : TA} {pa : PTA} (h : PurA W E Xc t pa) : PurI W E Xc (iRng3 t) (iR3 pa) := by
  intro Z σ0 H G σ env φ R Q' e x k q
  refine h Z σ0 H G σ env φ _ _ e x (fun vs ds H1 G1 e1 p1 t1 r1 f1 q1 => ?_) q
  match ds, q1 with
  | [.int i, .int j, .int c], q1 =>
    obtain ⟨v, u, w, rfl, f, f2, f3⟩ := frs3 f1
    cases f
    cases f2
    cases f3
    obtain ⟨rfl, hb, q1⟩ := q1
    exact ⟨i, j, -1, _, rfl, RgC.neg hb.1 hb.2.1 hb.2.2.1 hb.2.2.2, k _ _ H1 G1 e1 p1 t1 r1 (fun G2 s => it_rngD) q1⟩
/-! ### a list repeated -/
def repD : D → D → (List D → Prop) → Prop
  | .lst xs, .int k, Q => (-(2 ^ 63) ≤ k ∧ k < 2 ^ 63) ∧ xs.length * k.toNat ≤ sizeLine ∧ Q (List.replicate k.toNat xs).flatten
  | _, _, _ => False
def oRep (pa pb : PTE) : PTO := fun env Q => pa env fun x e1 => pb e1 fun y e2 => repD x y fun zs => Q (.own (.lst zs)) e2
theorem rd_rep {xs : List D} {k : Int} {R : List D → Prop} : repD (.lst xs) (.int k) R = ((-(2 ^ 63) ≤ k ∧ k < 2 ^ 63) ∧ xs.length * k.toNat ≤ sizeLine ∧ R (List.replicate k.toNat xs).flatten) := rfl
theorem FRs.rep {G : Hp} {vs : List V} {ds : List D} (f : FRs W G vs ds) : ∀ n : Nat, FRs W G (List.replicate n vs).flatten (List.replicate n ds).flatten
  | 0 => .nil
  | n + 1 => by
    rw [List.replicate_succ, List.replicate_succ, List.flatten_cons, List.flatten_cons]
    exact f.append (FRs.rep f n)
theorem puro_rep (ha : PurE W E Xc ta pa) (hb : PurE W E Xc tb pb) : PurO W E Xc (tOp rTimes ta tb) (oRep pa pb) := by
  intro Z σ0 H G σ env φ Q Q' e x k h
  refine ha Z σ0 H G σ env φ _ _ e x (fun v1 d1 H1 G1 e1 p1 t1 r1 f1 q1 => ?_) h
  refine hb Z σ0 H1 G1 σ e1 p1 _ _ r1 (x.ext t1) (fun v2 d2 H2 G2 e2 p2 t2 r2 f2 q2 => ?_) q1
  unfold repD at q2
  split at q2
  · cases f1 with
    | @lst a us as ha ta =>
    cases f2
    obtain ⟨hl, hs, q⟩ := q2
    refine .inr (.inr ⟨_, _, _, rfl, rfl, r2.gh _ _ (t2.g _ _ ha), hl.1, hl.2, by rw [ta.length]; exact hs, fun p hp => ?_⟩)
    obtain ⟨r3, t3, d1, d2, d3, d4⟩ := r2.ownNew (o := .lst (List.replicate _ us).flatten) hp
    exact k _ (.own (.lst _)) _ _ _ _ _ ((t1.trans t2).trans t3) r3 ⟨.lst one_same (FRs.rep (ta.mono t2.g) _), d1, d2, d3, d4⟩ q
  · exact q2.elim
/-! ### xs.insert(i, e), xs.pop(i) -/
def rInsert : V → List V → Hp → VK → Prop := fun x vs H Q => ∃ (l : Addr) (xs : List V) (i : Int) (y : V), x = .ref l ∧ vs = [.int i, y] ∧ H l = some (.lst xs) ∧ xs.length < sizeLine ∧ 0 ≤ i ∧ i < 2 ^ 63 ∧
    Q .non (upd H l (.lst (xs.take i.toNat ++ [y] ++ xs.drop i.toNat)))
def sIns (i : Nat) (pa : PTA) : PTS := fun L env => (∃ s xs, env[i]? = some s ∧ asL s = some xs) ∧ pa env fun ds e1 => match ds with
  | [.int j, d] => ∃ s xs, e1[i]? = some s ∧ asL s = some xs ∧ xs.length < sizeLine ∧ 0 ≤ j ∧ j < 2 ^ 63 ∧ L.nx (e1.set i (putL (xs.take j.toNat ++ [d] ++ xs.drop j.toNat) s))
  | _ => False
theorem purs_ins {i : Nat} {t : TA} {pa : PTA} (h : PurA W E Xc t pa) : PurS W E Xc (tDrop (tBM W.K "list" rInsert (tVar i) t)) (sIns i pa) := by
  intro Z σ0 H G σ env φ L L' e x k ⟨⟨s, xs, hs, hx⟩, q⟩
  obtain ⟨a, vs, h1, h2⟩ := e.listAt hs hx
  refine ⟨.ref a, h1, .inl ⟨rfl, vs, SqL.of h2⟩, ?_⟩
  refine h Z σ0 H G σ env φ _ _ e x (fun vs2 ds H1 G1 e1 p1 t1 r1 f1 q1 => ?_) q
  match ds, q1 with
  | [.int j, d], q1 =>
    obtain ⟨v, u, rfl, f, f2⟩ := frs2 f1
    cases f
    obtain ⟨s', xs', hs', hx', hl, j0, j1, q1⟩ := q1
    obtain ⟨a', vs', h1', h2', h3', h4'⟩ := r1.mutL hs' hx'
    rw [h1] at h1'
    cases h1'
    obtain ⟨t2, r2⟩ := h4' (vs'.take j.toNat ++ [u] ++ vs'.drop j.toNat) (xs'.take j.toNat ++ [d] ++ xs'.drop j.toNat) (((h3'.take _).snoc f2).append (h3'.drop _))
    exact ⟨a, vs', j, u, rfl, rfl, h2', by rw [h3'.length]; exact hl, j0, j1, k.nx _ _ _ _ _ (t1.trans t2) r2 q1⟩
def ePopAt (i : Nat) (pe : PTE) : PTE := fun env Q => (∃ s xs, env[i]? = some s ∧ asL s = some xs) ∧ pe env fun j e1 => match j with
  | .int j => ∃ s xs n d, e1[i]? = some s ∧ asL s = some xs ∧ ixN xs.length j = some n ∧ j < 2 ^ 62 ∧ -(2 ^ 62) ≤ j ∧ xs[n]? = some d ∧ Q d (e1.set i (putL (xs.eraseIdx n) s))
  | _ => False
theorem FRs.erase {G : Hp} : ∀ {vs : List V} {ds : List D} (n : Nat), FRs W G vs ds → FRs W G (vs.eraseIdx n) (ds.eraseIdx n)
  | _, _, _, .nil => .nil
  | _, _, 0, .cons _ t => t
  | _, _, n + 1, .cons h t => .cons h (FRs.erase n t)
theorem pure_popAt {i : Nat} (h : PurE W E Xc te pe) : PurE W E Xc (tBM W.K "list" rPopAt (tVar i) (tCons te tNil)) (ePopAt i pe) := by
  intro Z σ0 H G σ env φ Q Q' e x k ⟨⟨s, xs, hs, hx⟩, q⟩
  obtain ⟨a, vs, h1, h2⟩ := e.listAt hs hx
  refine ⟨.ref a, h1, .inl ⟨rfl, vs, SqL.of h2⟩, ?_⟩
  refine h Z σ0 H G σ env φ _ _ e x (fun v d H1 G1 e1 p1 t1 r1 f1 q1 => ?_) q
  cases d <;> first | (exact q1.elim) | skip
  cases f1
  obtain ⟨s', xs', n, d, hs', hx', hn, j1, j0, hd, q1⟩ := q1
  obtain ⟨a', vs', h1', h2', h3', h4'⟩ := r1.mutL hs' hx'
  rw [h1] at h1'
  cases h1'
  obtain ⟨v, hv, fv⟩ := h3'.get hd
  obtain ⟨t2, r2⟩ := h4' _ _ (FRs.erase n h3')
  refine ⟨a, vs', _, n, v, rfl, rfl, h2', by omega, by omega, by rw [h3'.length]; exact (ixN_seq hn).1, hv, k v d _ _ _ _ (t1.trans t2) r2 (fv.mono t2.g) q1⟩
/-! ### xs[::-1] -/
def revD : D → (D → Prop) → Prop
  | .lst xs, Q => Q (.lst xs.reverse)
  | _, _ => False
def eRev (pe : PTE) : PTE := fun env Q => pe env fun d e1 => revD d fun r => Q r e1
theorem rd_rev {xs : List D} {R : D → Prop} : revD (.lst xs) R = R (.lst xs.reverse) := rfl
theorem FRs.rev {G : Hp} : ∀ {vs : List V} {ds : List D}, FRs W G vs ds → FRs W G vs.reverse ds.reverse
  | _, _, .nil => .nil
  | _, _, .cons h t => by
    rw [List.reverse_cons, List.reverse_cons]
    exact (FRs.rev t).snoc h
theorem pure_rev (h : PurE W E Xc te pe) : PurE W E Xc (tRevL W.K te) (eRev pe) := by
  intro Z σ0 H G σ env φ Q Q' e x k q
  refine h Z σ0 H G σ env φ _ _ e x (fun v d H1 G1 e1 p1 t1 r1 f1 q1 => ?_) q
  unfold revD at q1
  split at q1
  · cases f1 with
    | @lst a us as ha ta =>
    refine ⟨a, us, rfl, SqL.of (r1.gh _ _ ha), fun p hp => ?_⟩
    have g := Grow.new (o := .lst us.reverse) r1.gh hp
    obtain ⟨r2, t2⟩ := r1.grow g
    exact k _ _ _ _ _ _ (t1.trans t2) r2 (.lst upd_same ((FRs.rev ta).mono g.g)) q1
  · exact q1.elim
/-! ### an own thing as a tree -/
def oTre (po : PTO) : PTO := fun env Q => po env fun s e1 => ∃ t, slT s = some t ∧ Q (.tre t) e1
theorem puro_tre {po : PTO} (h : PurO W E Xc te po) : PurO W E Xc te (oTre po) := by
  intro Z σ0 H G σ env φ Q Q' e x k q
  refine h Z σ0 H G σ env φ _ _ e x (fun v s F H1 G1 e1 p1 t1 r1 f1 q1 => ?_) q
  obtain ⟨t, ht, q1⟩ := q1
  obtain ⟨F', tr, d1, d2, d3, d4⟩ := f1.toT ht
  exact k v (.tre t) F' H1 G1 e1 p1 t1 r1 ⟨tr, d1, d2, d3, d4⟩ q1
/-! ### is True -/
def pIsB : D → D → (D → Prop) → Prop
  | .bl a, .bl b, Q => Q (.bl (decide (a = b)))
  | _, _, _ => False
def pNotB : D → D → (D → Prop) → Prop
  | .bl a, .bl b, Q => Q (.bl (!decide (a = b)))
  | _, _, _ => False
theorem pr_isB : PurR2 W rIsB pIsB := by
  intro G H x y dx dy Q Q' e f1 f2 k h
  cases f1 <;> first | (exact h.elim) | skip
  cases f2 <;> first | (exact h.elim) | skip
  exact ⟨_, _, rfl, rfl, k _ _ G H (Grow.refl e) (.bl _) h⟩
theorem pr_notB : PurR2 W rNotB pNotB := by
  intro G H x y dx dy Q Q' e f1 f2 k h
  cases f1 <;> first | (exact h.elim) | skip
  cases f2 <;> first | (exact h.elim) | skip
  exact ⟨_, _, rfl, rfl, k _ _ G H (Grow.refl e) (.bl _) h⟩
theorem rd_isB {a b : Bool} {Q : D → Prop} : pIsB (.bl a) (.bl b) Q = Q (.bl (decide (a = b))) := rfl
theorem rd_notB {a b : Bool} {Q : D → Prop} : pNotB (.bl a) (.bl b) Q = Q (.bl (!decide (a = b))) := rfl
/-! ### reduction -/
theorem rd_ixA1 {ks vs : List D} {k : D} {Q : D → Prop} : pIxA (.dct ks vs) k Q = (kOk ks k ∧ ∃ d, atVv ks vs k = some d ∧ Q d) := rfl
theorem rd_ixA2 {xs : List D} {k : D} {Q : D → Prop} : pIxA (.lst xs) k Q = pIx (.lst xs) k Q := rfl
theorem rd_ixA3 {xs : List D} {k : D} {Q : D → Prop} : pIxA (.tup xs) k Q = pIx (.tup xs) k Q := rfl
theorem rd_ixA4 {x : PySem.Str} {k : D} {Q : D → Prop} : pIxA (.str x) k Q = pIx (.str x) k Q := rfl
theorem rd_ixA5 {xs : List Int} {k : D} {Q : D → Prop} : pIxA (.scr xs) k Q = pIx (.scr xs) k Q := rfl
theorem rd_treS1 {t : T} : treS (.tre t) = some t := rfl
theorem rd_treS2 {t : T} : treS (.ptr t) = some t := rfl
theorem rd_setT1 {t u : T} : setT (.tre t) u = .tre u := rfl
theorem rd_setT2 {t u : T} : setT (.ptr t) u = .ptr u := rfl
theorem rd_slT1 {d : D} : slT (.frz d) = some (.leaf d) := rfl
theorem rd_slT2 {ds : List D} : slT (.own (.lst ds)) = some (.lst (ds.map .leaf)) := rfl
theorem rd_slT3 {t : T} : slT (.tre t) = some t := rfl
theorem rd_pListF {xs : List D} {Q : List D → Prop} : pListF (.lst xs) Q = Q xs := rfl
end
end Pu

set_option Elab.async false
set_option linter.all false
set_option maxRecDepth 100000
namespace Lk15
open PySem PySem.Spec L2 Pu
/-! ### what the defs do -/
def A7 (t : List Nat) : Prop := ∀ c ∈ t, c < 128
def ItOk (d : D) : Prop := d = .non ∨ ∃ t, d = .str (SX.S t) ∧ A7 t
def TxOk (d : D) : Prop := ∃ t, d = .str (SX.S t) ∧ A7 t
structure Two where
  a : List D
  b : List D
def TwoOk (w : Two) : Prop := w.a.length ≤ 41 ∧ w.b.length ≤ 82 ∧ (∀ d ∈ w.a, ItOk d) ∧ ∀ d ∈ w.b, TxOk d
def lcs : List D → List D → Nat
  | [], _ => 0
  | _ :: _, [] => 0
  | x :: xs, y :: ys => if x = y then lcs xs ys + 1 else max (lcs xs (y :: ys)) (lcs (x :: xs) ys)
termination_by a b => a.length + b.length
def Two.l (w : Two) (i j : Nat) : Nat := lcs (w.a.drop i) (w.b.drop j)
inductive St
  | keep (i j : Int)
  | cut (i : Int)
  | put (j : Int)
def St.d : St → D
  | .keep i j => .tup [.str "keep", .int i, .int j]
  | .cut i => .tup [.str "cut", .int i]
  | .put j => .tup [.str "put", .int j]
def St.isK : St → Bool
  | .keep _ _ => true
  | _ => false
def stD (ss : List St) : D := .lst (ss.map St.d)
/-- the steps from (i, j) on; n is enough -/
def Two.steps (w : Two) : Nat → Nat → Nat → List St
  | 0, _, _ => []
  | n + 1, i, j =>
    if i < w.a.length ∧ j < w.b.length ∧ w.a[i]? = w.b[j]? then .keep i j :: w.steps n (i + 1) (j + 1)
    else if i < w.a.length ∧ w.l (i + 1) j = w.l i j then .cut i :: w.steps n (i + 1) j
    else if j < w.b.length then .put j :: w.steps n i (j + 1) else []
def Two.due (w : Two) : List St := w.steps (w.a.length + w.b.length) 0 0
/-- do the steps lead from (i, j) to the end? -/
def Two.right (w : Two) : Int → Int → List St → Bool
  | i, j, [] => decide (i = w.a.length) && decide (j = w.b.length)
  | i, j, .keep a b :: r => decide (a = i ∧ b = j ∧ i < w.a.length ∧ j < w.b.length ∧ w.a[i.toNat]? = w.b[j.toNat]?) && w.right (i + 1) (j + 1) r
  | i, j, .cut a :: r => decide (a = i ∧ i < w.a.length) && w.right (i + 1) j r
  | i, j, .put b :: r => decide (b = j ∧ j < w.b.length) && w.right i (j + 1) r
def cntK (ss : List St) : Nat := (ss.filter St.isK).length
def rowD (w : Two) (i : Nat) : D := .lst ((List.range (w.b.length + 1)).map fun j : Nat => D.int (w.l i j))
def tabD (w : Two) : D := .lst ((List.range (w.a.length + 1)).map fun i => rowD w i)
def keyL (i j : Nat) : D := .tup [.int i, .int j]
/-- all keys are there -/
def MostOk (w : Two) (d : D) : Prop := ∃ ks ds, d = .dct ks ds ∧ (∀ k ∈ ks, ∃ a b : Nat, k = keyL a b) ∧ ∀ i j, i ≤ w.a.length → j ≤ w.b.length → atVv ks ds (keyL i j) = some (.int (w.l i j))
/-! ### what they promise -/
def ps_law_state : PSp := psOf (fun ns : List Int => [.frz (.scr ns)]) fun ns Q _ => ns.length ≤ 63 ∧ Q (.own stA) [.nil]
abbrev ps_law_draw : PSp := psDraw
def ps_law_pick : PSp := psOf (fun xs : List D => [.par stA, .frz (.lst xs)]) fun xs Q _ => xs ≠ [] ∧ xs.length < 1073741824 ∧ AllIn xs fun d => Q (.frz d) [.par stA, .nil]
def ps_kept_counts : PSp := psOf (fun a : List D × List D => [.frz (.lst a.1), .frz (.lst a.2)]) fun a Q _ => TwoOk ⟨a.1, a.2⟩ ∧ ∀ t : T, t.er = tabD ⟨a.1, a.2⟩ → Q (.tre t) [.nil, .nil]
def ps_steps_between : PSp := psOf (fun a : List D × List D => [.frz (.lst a.1), .frz (.lst a.2)]) fun a Q _ => TwoOk ⟨a.1, a.2⟩ ∧ Q (.own (stD (Two.due ⟨a.1, a.2⟩))) [.nil, .nil]
def ps_script_right : PSp := psOf (fun a : List D × List D × D => [.frz (.lst a.1), .frz (.lst a.2.1), .frz a.2.2]) fun a Q _ => TwoOk ⟨a.1, a.2.1⟩ ∧ ∃ ss : List St, a.2.2 = stD ss ∧ ss.length ≤ 1000 ∧ Q (.frz (.bl (Two.right ⟨a.1, a.2.1⟩ 0 0 ss))) [.nil, .nil, .nil]
def ps_kept : PSp := psOf (fun d : D => [.frz d]) fun d Q _ => ∃ ss : List St, d = stD ss ∧ ss.length ≤ 1000 ∧ Q (.frz (.int (cntK ss))) [.nil]
def ps_law_lists : PSp := psOf (fun _ : Unit => [.par stA]) fun _ Q _ => ∀ w, TwoOk w → Q (.frz (.tup [.lst w.a, .lst w.b])) [.par stA]
def ps_law_most : PSp := psOf (fun a : List D × List D => [.frz (.lst a.1), .frz (.lst a.2)]) fun a Q _ => TwoOk ⟨a.1, a.2⟩ ∧ ∀ t : T, MostOk ⟨a.1, a.2⟩ t.er → Q (.tre t) [.nil, .nil]
def ps_law_due : PSp := psOf (fun a : List D × List D => [.frz (.lst a.1), .frz (.lst a.2)]) fun a Q _ => TwoOk ⟨a.1, a.2⟩ ∧ Q (.frz (.tup [stD (Two.due ⟨a.1, a.2⟩), .int (Two.l ⟨a.1, a.2⟩ 0 0)])) [.nil, .nil]
def ps_law_leads : PSp := psOf (fun a : List D × List D × D => [.frz (.lst a.1), .frz (.lst a.2.1), .frz a.2.2]) fun a Q _ => TwoOk ⟨a.1, a.2.1⟩ ∧ ∃ ss : List St, a.2.2 = stD ss ∧ ss.length ≤ 1000 ∧ Q (.frz (.bl (Two.right ⟨a.1, a.2.1⟩ 0 0 ss))) [.nil, .nil, .nil]
def ps_law_other_steps : PSp := psOf (fun a : List D × List D × D => [.par stA, .frz (.lst a.1), .frz (.lst a.2.1), .frz a.2.2]) fun a Q _ => TwoOk ⟨a.1, a.2.1⟩ ∧ ∃ ss : List St, a.2.2 = stD ss ∧ ss.length ≤ 500 ∧ ∀ ts : List St, ts.length ≤ 1000 → Q (.own (stD ts)) [.par stA, .nil, .nil, .nil]
def topS (i : Nat) : Stmt := PySem.Challenge.pw_quiltward_k15_scripts.main.body.getD i (.Pass ⟨0, 0, 0, 0⟩)
abbrev s_law_state : Stmt := topS 6
abbrev n_law_state : List Str := ["_law_script", "_law_seed", "_law_cell"]
theorem sc_law_state : FnScope n_law_state ["_law_script"] (defScope s_law_state) := ⟨rfl, rfl, rfl, by decide +kernel, rfl, by decide +kernel, by decide +kernel⟩
abbrev s_law_draw : Stmt := topS 7
abbrev n_law_draw : List Str := ["_law_state_here", "_law_many", "_law_cells", "_law_value", "_law_mixed"]
theorem sc_law_draw : FnScope n_law_draw ["_law_state_here", "_law_many"] (defScope s_law_draw) := ⟨rfl, rfl, rfl, by decide +kernel, rfl, by decide +kernel, by decide +kernel⟩
abbrev s_law_pick : Stmt := topS 8
abbrev n_law_pick : List Str := ["_law_state_here", "_law_row"]
theorem sc_law_pick : FnScope n_law_pick ["_law_state_here", "_law_row"] (defScope s_law_pick) := ⟨rfl, rfl, rfl, by decide +kernel, rfl, by decide +kernel, by decide +kernel⟩
abbrev s_law_lists : Stmt := topS 9
abbrev n_law_lists : List Str := ["_law_state_here", "_law_most_here", "_law_one", "_law_other", "_law_line", "_law_kind", "_law_k"]
theorem sc_law_lists : FnScope n_law_lists ["_law_state_here"] (defScope s_law_lists) := ⟨rfl, rfl, rfl, by decide +kernel, rfl, by decide +kernel, by decide +kernel⟩
abbrev s_kept_counts : Stmt := topS 1
abbrev n_kept_counts : List Str := ["one", "other", "counts", "i", "j", "_"]
theorem sc_kept_counts : FnScope n_kept_counts ["one", "other"] (defScope s_kept_counts) := ⟨rfl, rfl, rfl, by decide +kernel, rfl, by decide +kernel, by decide +kernel⟩
abbrev s_steps_between : Stmt := topS 2
abbrev n_steps_between : List Str := ["one", "other", "counts", "found", "i", "j"]
theorem sc_steps_between : FnScope n_steps_between ["one", "other"] (defScope s_steps_between) := ⟨rfl, rfl, rfl, by decide +kernel, rfl, by decide +kernel, by decide +kernel⟩
abbrev s_law_most : Stmt := topS 10
abbrev n_law_most : List Str := ["_law_one", "_law_other", "_law_found", "_law_i", "_law_j", "_law_best"]
theorem sc_law_most : FnScope n_law_most ["_law_one", "_law_other"] (defScope s_law_most) := ⟨rfl, rfl, rfl, by decide +kernel, rfl, by decide +kernel, by decide +kernel⟩
abbrev s_law_due : Stmt := topS 11
abbrev n_law_due : List Str := ["_law_one", "_law_other", "_law_most_here", "_law_found", "_law_i", "_law_j", "_law_turn"]
theorem sc_law_due : FnScope n_law_due ["_law_one", "_law_other"] (defScope s_law_due) := ⟨rfl, rfl, rfl, by decide +kernel, rfl, by decide +kernel, by decide +kernel⟩
abbrev s_kept : Stmt := topS 4
abbrev n_kept : List Str := ["steps", "step"]
theorem sc_kept : FnScope n_kept ["steps"] (defScope s_kept) := ⟨rfl, rfl, rfl, by decide +kernel, rfl, by decide +kernel, by decide +kernel⟩
abbrev s_script_right : Stmt := topS 3
abbrev n_script_right : List Str := ["one", "other", "steps", "i", "j", "step"]
theorem sc_script_right : FnScope n_script_right ["one", "other", "steps"] (defScope s_script_right) := ⟨rfl, rfl, rfl, by decide +kernel, rfl, by decide +kernel, by decide +kernel⟩
abbrev s_law_other_steps : Stmt := topS 13
abbrev n_law_other_steps : List Str := ["_law_state_here", "_law_one", "_law_other", "_law_steps", "_law_found", "_law_turn", "_law_kind", "_law_at"]
theorem sc_law_other_steps : FnScope n_law_other_steps ["_law_state_here", "_law_one", "_law_other", "_law_steps"] (defScope s_law_other_steps) := ⟨rfl, rfl, rfl, by decide +kernel, rfl, by decide +kernel, by decide +kernel⟩
abbrev s_law_leads : Stmt := topS 12
abbrev n_law_leads : List Str := ["_law_one", "_law_other", "_law_steps", "_law_i", "_law_j", "_law_step"]
theorem sc_law_leads : FnScope n_law_leads ["_law_one", "_law_other", "_law_steps"] (defScope s_law_leads) := ⟨rfl, rfl, rfl, by decide +kernel, rfl, by decide +kernel, by decide +kernel⟩
abbrev s_law : Stmt := topS 14
abbrev n_law : List Str := ["_law_script", "_law_state_here", "_law_one", "_law_other", "_law_before", "_law_told", "_law_due_here", "_law_most_here", "_law_turn", "_law_steps", "_law_holds", "_law_step"]
theorem sc_law : FnScope n_law ["_law_script"] (defScope s_law) := ⟨rfl, rfl, rfl, by decide +kernel, rfl, by decide +kernel, by decide +kernel⟩
def p_law_state : PTS := (sSeq (sSet 1 (oE (eC (.int 7))))
    (sSeq (sForI (iL (eVar 0)) (gN 2) (sSet 1 (oE (eOp (pI2 (fun _ j => 0 < j) fun i j => .int (i % j)) (eCB (p1 pInt) (eCons (eOp pAdd (eOp pMul (eVar 1) (eC (.int 31))) (eVar 2)) eNil)) (eC (.int 1000003))))))
    (sRet (oSt (oComp (iL (eVar 0)) (gN 2) tYes' (eCB (p1 pAbs) (eCons (eVar 2) eNil)) [2]) (qOp pAdd (qVar 1) (qC (.int 1)))))))
def p_law_pick : PTS := (sRet (oE (eOp pIx (eVar 1) (eO (oCall ps_law_draw NoX (cRef 0 (cVal (eQ (qCB (p1 pLen) (qCons (qVar 1) qNil))) cNil)))))))
def p_law_lists : PTS := (sMid (sSet 1 (oE (eIf (tB' (eOp pGt (eO (oCall ps_law_draw NoX (cRef 0 (cVal (eC (.int 12)) cNil)))) (eC (.int 0)))) (eC (.int 13)) (eC (.int 41)))))
    (sSeq (sSet 2 (oE (eO (oComp (iR1 (eCons (eO (oCall ps_law_draw NoX (cRef 0 (cVal (eVar 1) cNil)))) eNil)) (gN 6) tYes' (eO (oCall ps_law_pick NoX (cRef 0 (cVal (eLst (eCons (eC (.str "a")) (eCons (eC (.str "b")) (eCons (eC (.str "c")) (eCons (eC (.str "")) (eCons (eC (.str "d")) eNil)))))) cNil)))) [6]))))
    (sSeq (sSet 3 (oLst eNil))
    (sSeq (sForI (iL (eVar 2)) (gN 4) (sSeq (sSet 5 (oE (eO (oCall ps_law_draw NoX (cRef 0 (cVal (eC (.int 6)) cNil))))))
    (sSeq (sIf (tQ (qB (qOp pGt (qVar 5) (qC (.int 0))))) (sApp 3 (eVar 4)) sNext)
    (sIf (tQ (qB (qOp pGt (qVar 5) (qC (.int 4))))) (sApp 3 (eO (oCall ps_law_pick NoX (cRef 0 (cVal (eLst (eCons (eC (.str "a")) (eCons (eC (.str "b")) (eCons (eC (.str "x")) eNil)))) cNil))))) sNext))))
    (sMid (sIf (tB' (eOp pEq (eO (oCall ps_law_draw NoX (cRef 0 (cVal (eC (.int 4)) cNil)))) (eC (.int 0)))) (sSet 3 (oComp (iR1 (eCons (eO (oCall ps_law_draw NoX (cRef 0 (cVal (eVar 1) cNil)))) eNil)) (gN 6) tYes' (eO (oCall ps_law_pick NoX (cRef 0 (cVal (eLst (eCons (eC (.str "a")) (eCons (eC (.str "b")) (eCons (eC (.str "c")) (eCons (eC (.str "x")) eNil))))) cNil)))) [6])) sNext)
    (sSeq (sSet 2 (oE (eO (oComp (iL (eVar 2)) (gN 4) tYes' (eIf (tB' (eOp pGt (eO (oCall ps_law_draw NoX (cRef 0 (cVal (eC (.int 8)) cNil)))) (eC (.int 0)))) (eVar 4) (eC .non)) [4]))))
    (sRet (oE (eTup (eCons (eVar 2) (eCons (eVar 3) eNil)))))))))))
def p_kept_counts : PTS := (sSeq (sSet 2 (oCompT (iR1 (eCons (eOp pAdd (eQ (qCB (p1 pLen) (qCons (qVar 0) qNil))) (eC (.int 1))) eNil)) (gN 5) tYes' (oRep (eLst (eCons (eC (.int 0)) eNil)) (eOp pAdd (eQ (qCB (p1 pLen) (qCons (qVar 1) qNil))) (eC (.int 1)))) [5]))
    (sSeq (sForI (iR3 (eCons (eOp (pI0 fun i j => .int (i - j)) (eQ (qCB (p1 pLen) (qCons (qVar 0) qNil))) (eC (.int 1))) (eCons (eUn (pU fun i => -i) (eC (.int 1))) (eCons (eUn (pU fun i => -i) (eC (.int 1))) eNil)))) (gN 3) (sForI (iR3 (eCons (eOp (pI0 fun i j => .int (i - j)) (eQ (qCB (p1 pLen) (qCons (qVar 1) qNil))) (eC (.int 1))) (eCons (eUn (pU fun i => -i) (eC (.int 1))) (eCons (eUn (pU fun i => -i) (eC (.int 1))) eNil)))) (gN 4) (sIf (tQ (qB (qOp pEq (qOp pIx (qVar 0) (qVar 3)) (qOp pIx (qVar 1) (qVar 4))))) (sPut (eOp pAdd (eQ (qOp pIx (qOp pIx (qVar 2) (qOp pAdd (qVar 3) (qC (.int 1)))) (qOp pAdd (qVar 4) (qC (.int 1))))) (eC (.int 1))) (plIx (plVar 2) (qVar 3)) (qVar 4)) (sPut (eCB (pMax fun i j => if j > i then j else i) (eCons (eQ (qOp pIx (qOp pIx (qVar 2) (qOp pAdd (qVar 3) (qC (.int 1)))) (qVar 4))) (eCons (eQ (qOp pIx (qOp pIx (qVar 2) (qVar 3)) (qOp pAdd (qVar 4) (qC (.int 1))))) eNil))) (plIx (plVar 2) (qVar 3)) (qVar 4)))))
    (sRet (oMove 2))))
def p_steps_between : PTS := (sSeq (sSet 2 (oE (eO (oCall ps_kept_counts NoX (cVal (eVar 0) (cVal (eVar 1) cNil))))))
    (sSeq (sSet 3 (oLst eNil))
    (sSeq (sSet 4 (oE (eC (.int 0))))
    (sSeq (sSet 5 (oE (eC (.int 0))))
    (sSeq (sWhile (tQ (qOr (qB (qOp pLt (qVar 4) (qCB (p1 pLen) (qCons (qVar 0) qNil)))) (qB (qOp pLt (qVar 5) (qCB (p1 pLen) (qCons (qVar 1) qNil)))))) (sIf (tQ (qAnd (qB (qOp pLt (qVar 4) (qCB (p1 pLen) (qCons (qVar 0) qNil)))) (qAnd (qB (qOp pLt (qVar 5) (qCB (p1 pLen) (qCons (qVar 1) qNil)))) (qB (qOp pEq (qOp pIx (qVar 0) (qVar 4)) (qOp pIx (qVar 1) (qVar 5))))))) (sSeq (sApp 3 (eTup (eCons (eC (.str "keep")) (eCons (eVar 4) (eCons (eVar 5) eNil)))))
    (sSeq (sAug 4 (pI0 fun i j => .int (i + j)) (eC (.int 1)))
    (sAug 5 (pI0 fun i j => .int (i + j)) (eC (.int 1))))) (sIf (tQ (qAnd (qB (qOp pLt (qVar 4) (qCB (p1 pLen) (qCons (qVar 0) qNil)))) (qB (qOp pEq (qOp pIx (qOp pIx (qVar 2) (qOp pAdd (qVar 4) (qC (.int 1)))) (qVar 5)) (qOp pIx (qOp pIx (qVar 2) (qVar 4)) (qVar 5)))))) (sSeq (sApp 3 (eTup (eCons (eC (.str "cut")) (eCons (eVar 4) eNil))))
    (sAug 4 (pI0 fun i j => .int (i + j)) (eC (.int 1)))) (sSeq (sApp 3 (eTup (eCons (eC (.str "put")) (eCons (eVar 5) eNil))))
    (sAug 5 (pI0 fun i j => .int (i + j)) (eC (.int 1)))))))
    (sRet (oMove 3)))))))
def p_law_most : PTS := (sSeq (sSet 2 oNew)
    (sSeq (sForI (iR3 (eCons (eQ (qCB (p1 pLen) (qCons (qVar 0) qNil))) (eCons (eUn (pU fun i => -i) (eC (.int 1))) (eCons (eUn (pU fun i => -i) (eC (.int 1))) eNil)))) (gN 3) (sForI (iR3 (eCons (eQ (qCB (p1 pLen) (qCons (qVar 1) qNil))) (eCons (eUn (pU fun i => -i) (eC (.int 1))) (eCons (eUn (pU fun i => -i) (eC (.int 1))) eNil)))) (gN 4) (sSeq (sSet 5 (oE (eC (.int 0))))
    (sSeq (sIf (tQ (qAnd (qB (qOp pLt (qVar 3) (qCB (p1 pLen) (qCons (qVar 0) qNil)))) (qB (qOp pLt (qVar 4) (qCB (p1 pLen) (qCons (qVar 1) qNil)))))) (sSeq (sSet 5 (oE (eCB (pMax fun i j => if j > i then j else i) (eCons (eQ (qOp pIxA (qVar 2) (qTup (qCons (qOp pAdd (qVar 3) (qC (.int 1))) (qCons (qVar 4) qNil))))) (eCons (eQ (qOp pIxA (qVar 2) (qTup (qCons (qVar 3) (qCons (qOp pAdd (qVar 4) (qC (.int 1))) qNil))))) eNil)))))
    (sIf (tQ (qAnd (qB (qOp pNotN (qOp pIx (qVar 0) (qVar 3)) (qC .non))) (qB (qOp pEq (qOp pIx (qVar 0) (qVar 3)) (qOp pIx (qVar 1) (qVar 4)))))) (sSet 5 (oE (eCB (pMax fun i j => if j > i then j else i) (eCons (eVar 5) (eCons (eOp pAdd (eQ (qOp pIxA (qVar 2) (qTup (qCons (qOp pAdd (qVar 3) (qC (.int 1))) (qCons (qOp pAdd (qVar 4) (qC (.int 1))) qNil))))) (eC (.int 1))) eNil))))) sNext)) sNext)
    (sPut (eVar 5) (plVar 2) (qTup (qCons (qVar 3) (qCons (qVar 4) qNil))))))))
    (sRet (oMove 2))))
def p_law_due : PTS := (sSeq (sSet 2 (oE (eO (oCall ps_law_most NoX (cVal (eVar 0) (cVal (eVar 1) cNil))))))
    (sSeq (sSet 3 (oLst eNil))
    (sSeq (sAsg (gT 2 (gsCons (gN 4) (gsCons (gN 5) gsNil))) (eTup (eCons (eC (.int 0)) (eCons (eC (.int 0)) eNil))))
    (sSeq (sForI (iR1 (eCons (eOp pAdd (eQ (qCB (p1 pLen) (qCons (qVar 0) qNil))) (eQ (qCB (p1 pLen) (qCons (qVar 1) qNil)))) eNil)) (gN 6) (sIf (tQ (qAnd (qB (qOp pLt (qVar 4) (qCB (p1 pLen) (qCons (qVar 0) qNil)))) (qAnd (qB (qOp pLt (qVar 5) (qCB (p1 pLen) (qCons (qVar 1) qNil)))) (qAnd (qB (qOp pNotN (qOp pIx (qVar 0) (qVar 4)) (qC .non))) (qB (qOp pEq (qOp pIx (qVar 0) (qVar 4)) (qOp pIx (qVar 1) (qVar 5)))))))) (sSeq (sApp 3 (eTup (eCons (eC (.str "keep")) (eCons (eVar 4) (eCons (eVar 5) eNil)))))
    (sPar 4 5 (eCons (eOp pAdd (eVar 4) (eC (.int 1))) (eCons (eOp pAdd (eVar 5) (eC (.int 1))) eNil)))) (sIf (tQ (qAnd (qB (qOp pLt (qVar 4) (qCB (p1 pLen) (qCons (qVar 0) qNil)))) (qB (qOp pEq (qOp pIxA (qVar 2) (qTup (qCons (qOp pAdd (qVar 4) (qC (.int 1))) (qCons (qVar 5) qNil)))) (qOp pIxA (qVar 2) (qTup (qCons (qVar 4) (qCons (qVar 5) qNil)))))))) (sSeq (sApp 3 (eTup (eCons (eC (.str "cut")) (eCons (eVar 4) eNil))))
    (sSet 4 (oE (eOp pAdd (eVar 4) (eC (.int 1)))))) (sIf (tQ (qB (qOp pLt (qVar 5) (qCB (p1 pLen) (qCons (qVar 1) qNil))))) (sSeq (sApp 3 (eTup (eCons (eC (.str "put")) (eCons (eVar 5) eNil))))
    (sSet 5 (oE (eOp pAdd (eVar 5) (eC (.int 1)))))) sNext))))
    (sRet (oE (eTup (eCons (eVar 3) (eCons (eQ (qOp pIxA (qVar 2) (qTup (qCons (qC (.int 0)) (qCons (qC (.int 0)) qNil))))) eNil)))))))))
def p_kept : PTS := (sRet (oE (eCB (p1 pLen) (eCons (eO (oComp (iL (eVar 0)) (gN 1) (tQ (qB (qOp pEq (qOp pIx (qVar 1) (qC (.int 0))) (qC (.str "keep"))))) (eVar 1) [1])) eNil))))
def p_script_right : PTS := (sSeq (sSet 3 (oE (eC (.int 0))))
    (sSeq (sSet 4 (oE (eC (.int 0))))
    (sSeq (sForI (iL (eVar 2)) (gN 5) (sIf (tQ (qB (qOp pEq (qOp pIx (qVar 5) (qC (.int 0))) (qC (.str "keep"))))) (sSeq (sIf (tQ (qOr (qB (qOp pNe (qVar 5) (qTup (qCons (qC (.str "keep")) (qCons (qVar 3) (qCons (qVar 4) qNil)))))) (qOr (qB (qOp pGe (qVar 3) (qCB (p1 pLen) (qCons (qVar 0) qNil)))) (qOr (qB (qOp pGe (qVar 4) (qCB (p1 pLen) (qCons (qVar 1) qNil)))) (qOr (qB (qOp pIsN (qOp pIx (qVar 0) (qVar 3)) (qC .non))) (qB (qOp pNe (qOp pIx (qVar 0) (qVar 3)) (qOp pIx (qVar 1) (qVar 4))))))))) (sRet (oE (eC (.bl false)))) sNext)
    (sSeq (sAug 3 (pI0 fun i j => .int (i + j)) (eC (.int 1)))
    (sAug 4 (pI0 fun i j => .int (i + j)) (eC (.int 1))))) (sIf (tQ (qB (qOp pEq (qOp pIx (qVar 5) (qC (.int 0))) (qC (.str "cut"))))) (sSeq (sIf (tQ (qOr (qB (qOp pNe (qVar 5) (qTup (qCons (qC (.str "cut")) (qCons (qVar 3) qNil))))) (qB (qOp pGe (qVar 3) (qCB (p1 pLen) (qCons (qVar 0) qNil)))))) (sRet (oE (eC (.bl false)))) sNext)
    (sAug 3 (pI0 fun i j => .int (i + j)) (eC (.int 1)))) (sSeq (sIf (tQ (qOr (qB (qOp pNe (qVar 5) (qTup (qCons (qC (.str "put")) (qCons (qVar 4) qNil))))) (qB (qOp pGe (qVar 4) (qCB (p1 pLen) (qCons (qVar 1) qNil)))))) (sRet (oE (eC (.bl false)))) sNext)
    (sAug 4 (pI0 fun i j => .int (i + j)) (eC (.int 1)))))))
    (sRet (oE (eQ (qAndV (qOp pEq (qVar 3) (qCB (p1 pLen) (qCons (qVar 0) qNil))) (qOp pEq (qVar 4) (qCB (p1 pLen) (qCons (qVar 1) qNil))))))))))
def p_law_other_steps : PTS := (sSeq (sSet 4 (oF (fCB (f1 pListF) (qCons (qVar 3) qNil))))
    (sSeq (sForI (iR1 (eCons (eOp pAdd (eC (.int 1)) (eO (oCall ps_law_draw NoX (cRef 0 (cVal (eC (.int 2)) cNil))))) eNil)) (gN 5) (sSeq (sSet 6 (oE (eO (oCall ps_law_draw NoX (cRef 0 (cVal (eC (.int 4)) cNil))))))
    (sIf (tQ (qOr (qB (qOp pEq (qCB (p1 pLen) (qCons (qVar 4) qNil)) (qC (.int 0)))) (qB (qOp pEq (qVar 6) (qC (.int 0)))))) (sIns 4 (eCons (eO (oCall ps_law_draw NoX (cRef 0 (cVal (eOp pAdd (eQ (qCB (p1 pLen) (qCons (qVar 4) qNil))) (eC (.int 1))) cNil)))) (eCons (eO (oCall ps_law_pick NoX (cRef 0 (cVal (eLst (eCons (eTup (eCons (eC (.str "put")) (eCons (eC (.int 0)) eNil))) (eCons (eTup (eCons (eC (.str "cut")) (eCons (eC (.int 0)) eNil))) (eCons (eTup (eCons (eC (.str "keep")) (eCons (eC (.int 0)) (eCons (eC (.int 0)) eNil)))) eNil)))) cNil)))) eNil))) (sIf (tQ (qB (qOp pEq (qVar 6) (qC (.int 1))))) (sDrop (ePopAt 4 (eO (oCall ps_law_draw NoX (cRef 0 (cVal (eQ (qCB (p1 pLen) (qCons (qVar 4) qNil))) cNil)))))) (sIf (tQ (qB (qOp pEq (qVar 6) (qC (.int 2))))) (sSeq (sSet 7 (oE (eO (oCall ps_law_draw NoX (cRef 0 (cVal (eQ (qCB (p1 pLen) (qCons (qVar 4) qNil))) cNil))))))
    (sIf (tQ (qB (qOp pEq (qOp pIx (qOp pIx (qVar 4) (qVar 7)) (qC (.int 0))) (qC (.str "keep"))))) (sSet 4 (oPlus (eOp pAdd (eCut (eVar 4) qNo (qPart (qVar 7))) (eLst (eCons (eTup (eCons (eC (.str "cut")) (eCons (eOp pIx (eIxV 4 (qVar 7)) (eC (.int 1))) eNil))) (eCons (eTup (eCons (eC (.str "put")) (eCons (eOp pIx (eIxV 4 (qVar 7)) (eC (.int 2))) eNil))) eNil)))) (eCut (eVar 4) (qPart (qOp pAdd (qVar 7) (qC (.int 1)))) qNo))) sNext)) (sSeq (sSet 7 (oE (eO (oCall ps_law_draw NoX (cRef 0 (cVal (eQ (qCB (p1 pLen) (qCons (qVar 4) qNil))) cNil))))))
    (sSet 4 (oPlus (eOp pAdd (eCut (eVar 4) qNo (qPart (qVar 7))) (eRev (eCut (eVar 4) (qPart (qVar 7)) (qPart (qOp pAdd (qVar 7) (qC (.int 2))))))) (eCut (eVar 4) (qPart (qOp pAdd (qVar 7) (qC (.int 2)))) qNo)))))))))
    (sRet (oMove 4))))
def p_law_leads : PTS := (sSeq (sAsg (gT 2 (gsCons (gN 3) (gsCons (gN 4) gsNil))) (eTup (eCons (eC (.int 0)) (eCons (eC (.int 0)) eNil))))
    (sSeq (sForI (iL (eVar 2)) (gN 5) (sSeq (sIf (tQ (qAnd (qB (qOp pIn (qOp pIx (qVar 5) (qC (.int 0))) (qTup (qCons (qC (.str "keep")) (qCons (qC (.str "cut")) qNil))))) (qOr (qB (qOp pNe (qOp pIx (qVar 5) (qC (.int 1))) (qVar 3))) (qB (qOp pGe (qVar 3) (qCB (p1 pLen) (qCons (qVar 0) qNil))))))) (sRet (oE (eC (.bl false)))) sNext)
    (sSeq (sIf (tQ (qAnd (qB (qOp pIn (qOp pIx (qVar 5) (qC (.int 0))) (qTup (qCons (qC (.str "keep")) (qCons (qC (.str "put")) qNil))))) (qOr (qB (qOp pNe (qOp pIx (qVar 5) (qUn (pU fun i => -i) (qC (.int 1)))) (qVar 4))) (qB (qOp pGe (qVar 4) (qCB (p1 pLen) (qCons (qVar 1) qNil))))))) (sRet (oE (eC (.bl false)))) sNext)
    (sSeq (sIf (tQ (qAnd (qB (qOp pEq (qOp pIx (qVar 5) (qC (.int 0))) (qC (.str "keep")))) (qOr (qB (qOp pIsN (qOp pIx (qVar 0) (qVar 3)) (qC .non))) (qB (qOp pNe (qOp pIx (qVar 0) (qVar 3)) (qOp pIx (qVar 1) (qVar 4))))))) (sRet (oE (eC (.bl false)))) sNext)
    (sSeq (sSet 3 (oE (eOp pAdd (eVar 3) (eCB (p1 pInt) (eCons (eQ (qOp pNe (qOp pIx (qVar 5) (qC (.int 0))) (qC (.str "put")))) eNil)))))
    (sSet 4 (oE (eOp pAdd (eVar 4) (eCB (p1 pInt) (eCons (eQ (qOp pNe (qOp pIx (qVar 5) (qC (.int 0))) (qC (.str "cut")))) eNil))))))))))
    (sRet (oE (eQ (qAndV (qOp pEq (qVar 3) (qCB (p1 pLen) (qCons (qVar 0) qNil))) (qOp pEq (qVar 4) (qCB (p1 pLen) (qCons (qVar 1) qNil)))))))))
def p_law : PTS := (sSeq (sSet 1 (oCall ps_law_state NoX (cVal (eVar 0) cNil)))
    (sSeq (sAsg (gT 2 (gsCons (gN 2) (gsCons (gN 3) gsNil))) (eO (oCall ps_law_lists NoX (cRef 1 cNil))))
    (sSeq (sSet 4 (oE (eLst (eCons (eCB (p1 pListU) (eCons (eVar 2) eNil)) (eCons (eCB (p1 pListU) (eCons (eVar 3) eNil)) eNil)))))
    (sSeq (sSet 5 (oE (eO (oCall ps_steps_between NoX (cVal (eVar 2) (cVal (eVar 3) cNil))))))
    (sSeq (sAsg (gT 2 (gsCons (gN 6) (gsCons (gN 7) gsNil))) (eO (oCall ps_law_due NoX (cVal (eVar 2) (cVal (eVar 3) cNil)))))
    (sSeq (sIf (tQ (qOr (qB (qOp pNe (qVar 5) (qVar 6))) (qOr (qB (qOp pNe (qCall ps_kept (qCons (qVar 5) qNil)) (qVar 7))) (qB (qOp pNotB (qCall ps_script_right (qCons (qVar 2) (qCons (qVar 3) (qCons (qVar 5) qNil)))) (qC (.bl true))))))) (sRet (oE (eC (.bl false)))) sNext)
    (sSeq (sForI (iR1 (eCons (eC (.int 4)) eNil)) (gN 8) (sSeq (sSet 9 (oE (eO (oCall ps_law_other_steps NoX (cRef 1 (cVal (eVar 2) (cVal (eVar 3) (cVal (eVar 6) cNil))))))))
    (sSeq (sSet 10 (oE (eO (oCall ps_script_right NoX (cVal (eVar 2) (cVal (eVar 3) (cVal (eVar 9) cNil)))))))
    (sSeq (sIf (tQ (qOr (qNot (qB (qCB (p2 pIsi) (qCons (qVar 10) (qCons (qC (.ty "bool")) qNil))))) (qB (qOp pNe (qVar 10) (qCall ps_law_leads (qCons (qVar 2) (qCons (qVar 3) (qCons (qVar 9) qNil)))))))) (sRet (oE (eC (.bl false)))) sNext)
    (sIf (tB' (eOp pNe (eO (oCall ps_kept NoX (cVal (eVar 9) cNil))) (eCB (p1 pLen) (eCons (eO (oComp (iL (eVar 9)) (gN 11) (tQ (qB (qOp pEq (qOp pIx (qVar 11) (qC (.int 0))) (qC (.str "keep"))))) (eVar 11) [11])) eNil)))) (sRet (oE (eC (.bl false)))) sNext)))))
    (sRet (oE (eQ (qOp pEq (qLst (qCons (qVar 2) (qCons (qVar 3) qNil))) (qVar 4))))))))))))

end Lk15

set_option Elab.async false
set_option linter.all false
set_option maxRecDepth 100000
namespace Lk15
open PySem PySem.Spec L2 Pu
theorem c_state {ns : List Int} {Q : Pu.Slot → Pu.Env → Prop} {X : XP} : ps_law_state [.frz (.scr ns)] Q X ↔ ns.length ≤ 63 ∧ Q (.own stA) [.nil] := psOf_iff (A := fun ns : List Int => [.frz (.scr ns)]) ns fun y e => by cases e; rfl
theorem c_pick {xs : List D} {Q : Pu.Slot → Pu.Env → Prop} {X : XP} : ps_law_pick [.par stA, .frz (.lst xs)] Q X ↔ xs ≠ [] ∧ xs.length < 1073741824 ∧ AllIn xs fun d => Q (.frz d) [.par stA, .nil] := psOf_iff (A := fun xs : List D => [.par stA, .frz (.lst xs)]) xs fun y e => by cases e; rfl
theorem S_inj {a b : List Nat} (h : SX.S a = SX.S b) : a = b := by
  have := congrArg (fun s : Str => s.cps.toList) h
  simpa [SX.S] using this
def I_state (ns : List Int) (i : Nat) (env : Pu.Env) : Prop := ∃ (s : Int) (x : Pu.Slot), env = [.frz (.scr ns), .frz (.int s), x] ∧ frS x = true
def J_state (ns : List Int) (i : Nat) (acc : List D) (env : Pu.Env) : Prop := ∃ (s : Int) (ms : List Int), acc = ms.map D.int ∧ ms.length ≤ i ∧ env = [.frz (.scr ns), .frz (.int s), .nil]
theorem pp_law_state : ∀ as Q X, ps_law_state as Q X → p_law_state (ends 1 Q) (as ++ nils (3 - as.length)) := by
  rintro as Q X ⟨ns, rfl, hl, h⟩
  have e2 := big
  simp only [p_law_state, sSeq, sSet, sIf, sRet, sRetN, sNext, sBreak, sCont, sDrop, sNever, sAsg, sPar, sAug, sApp, sExt, sSetI, sForI, sWhile, sMid, sTry, sRaise, qVar, qC, qOp, qUn, qB, qAnd, qOr, qNot, qAndV, qOrV, qNotV, qIf, qNil, qCons, qCB, qTup, qLst, qCut, qPart, qNo, qM1, qM0, qCall, qChain, qXf, eQ, eVar, eC, eOp, eUn, eIf, eNil, eCons, eCB, eTup, eLst, eO, eCut, eM1, eM0, ePop, eIxV, eAnd, eOr, eNot, eAndV, eOrV, eNotV, eChain, eCutE, eNo, ePart, oSu, iS, tB', tQ, tYes', oE, oPlus, oRep, oTre, oNew, oCompT, iR3, sPut, plVar, plIx, sIns, ePopAt, eRev, oLst, oMove, oIf, oCall, oSt, oComp, iL, iT, iR1, iR2, gN, gT, gsNil, gsCons, cNil, cVal, cRef, free_0, free_succ, ends, outs, nils, resolve, putBack, allRef, refs, wipeE, pIsN, pNotN, pEq, pNe, eqOk_ii, eqOk_ss, eqOk_bb, eqOk_ni, eqOk_in, frS_frz, frS_own, frS_nil, List.replicate, List.getElem?_cons_zero, List.getElem?_cons_succ, List.set_cons_zero, List.set_cons_succ, List.cons_append, List.nil_append, List.length_cons, List.length_nil, List.take_succ_cons, List.take_zero, List.map_cons, List.map_nil, true_and, and_true, D.int.injEq, D.str.injEq, D.lst.injEq, decide_eq_true_eq, ite_true, ite_false, if_true, if_false, reduceIte, Bool.false_eq_true, false_and, and_false, Bool.not_true, Bool.not_false, Option.some.injEq, exists_eq_left', exists_eq_left, exists_and_left, List.nodup_cons, List.nodup_nil, List.not_mem_nil, not_false_eq_true, List.mem_cons, or_false, false_or, forall_eq, forall_eq_or_imp, Slot.own.injEq, Slot.par.injEq, Slot.frz.injEq, reduceCtorEq, exists_eq', exists_eq, exists_false, decide_true, decide_false, or_self, false_implies, implies_true, forall_const, eq_self, rd_lkL1, rd_lkL2, rd_lkL3, rd_lkE1, rd_lkE2, rd_thE1, rd_thE2, rd_lkF1, rd_lkX1, rd_lkX2, rd_lkX3, rd_mvS1, rd_mvS2, rd_mvE1, rd_mvE2, rd_lsO1, rd_lsO2, rd_tpO1, rd_sol1, rd_sol2, rd_sol3, rd_sol4, rd_sol5, rd_sol6, rd_sol7, rd_flat1, rd_flat2, rd_flat3, rd_flat4, rd_flat5, rd_asD1, rd_asD2, rd_asQ1, rd_asQ2, rd_asB, rd_asI, rd_p1, rd_p2, rd_pI0, rd_pI2, rd_pU, rd_pAdd1, rd_pAdd2, rd_pAdd3, rd_pAdd4, rd_pMul1, rd_pMul2, rd_pMul3, rd_pLen1, rd_pLen2, rd_pLen3, rd_pInt1, rd_pAbs, rd_pList1, rd_pList2, rd_pList3, rd_pCut1, rd_pCut2, rd_pCut3, rd_non1, rd_non2, rd_non3, rd_non4, rd_non5, rd_non6, rd_isStr, rd_pIx1, rd_pIx2, rd_pIx3, rd_pJoin1, rd_upS1, rd_upS2, rd_out1, rd_out2, rd_out3, rd_out4, rd_asL1, rd_asL2, rd_putL1, rd_putL2, rd_lkT1, rd_lkT2, rd_lkT3, rd_thT, rd_mvT1, rd_mvT2, rd_asDT, rd_asQT, rd_upT1, rd_upT2, rd_outT1, rd_outT2, rd_ref1, rd_ref2, rd_ref3, rd_ref4, rd_flat6, rd_flats0, rd_flats1, rd_er1, rd_er2, rd_er3, rd_er4, rd_ers0, rd_ers1, rd_ersL, rd_stA, rd_isi1, rd_isi2, rd_isi3, rd_isi4, rd_isX, rd_draw, rd_take, rd_pLt, rd_pLe, rd_pGt, rd_pGe, rd_pTuple1, rd_pTuple2, rd_pStr1, rd_pStr2, rd_pInt, rd_pIntS, rd_pIntB, rd_pOrd, rd_pMax, rd_pSplit, rd_pPart, rd_stO, rd_pCutS, rd_solB, rd_pIn1, rd_pNotIn1, rd_pIn2, rd_pIn3, rd_pNotIn2, rd_pNotIn3, rd_pBls, rd_pJoin2, rd_at0, rd_at1, rd_at2, rd_at3, rd_atL, rd_ixL, rd_pRepr, rd_pGt2, rd_pLt2, rd_pListU1, rd_pListU2, rd_pListU3, rd_pListU4, rd_pSindex, rd_pStarts, rd_f1, rd_pSort, rd_pSortD, rd_oF, rd_qF, rd_fCB, rd_cat, rd_rep, rd_rev, rd_isB, rd_notB, rd_ixA1, rd_ixA2, rd_ixA3, rd_ixA4, rd_ixA5, rd_treS1, rd_treS2, rd_setT1, rd_setT2, rd_slT1, rd_slT2, rd_slT3, rd_pListF]
  refine ⟨I_state ns, ⟨7, .nil, rfl, rfl⟩, ?_⟩
  rintro i env ⟨s, x, rfl, hx⟩
  refine ⟨fun d hd => ?_, fun hi => ?_⟩
  · obtain ⟨hi, h2⟩ := List.getElem?_eq_some_iff.mp hd
    rw [List.getElem_map] at h2
    subst h2
    simp only [hx, sSeq, sSet, sIf, sRet, sRetN, sNext, sBreak, sCont, sDrop, sNever, sAsg, sPar, sAug, sApp, sExt, sSetI, sForI, sWhile, sMid, sTry, sRaise, qVar, qC, qOp, qUn, qB, qAnd, qOr, qNot, qAndV, qOrV, qNotV, qIf, qNil, qCons, qCB, qTup, qLst, qCut, qPart, qNo, qM1, qM0, qCall, qChain, qXf, eQ, eVar, eC, eOp, eUn, eIf, eNil, eCons, eCB, eTup, eLst, eO, eCut, eM1, eM0, ePop, eIxV, eAnd, eOr, eNot, eAndV, eOrV, eNotV, eChain, eCutE, eNo, ePart, oSu, iS, tB', tQ, tYes', oE, oPlus, oRep, oTre, oNew, oCompT, iR3, sPut, plVar, plIx, sIns, ePopAt, eRev, oLst, oMove, oIf, oCall, oSt, oComp, iL, iT, iR1, iR2, gN, gT, gsNil, gsCons, cNil, cVal, cRef, free_0, free_succ, ends, outs, nils, resolve, putBack, allRef, refs, wipeE, pIsN, pNotN, pEq, pNe, eqOk_ii, eqOk_ss, eqOk_bb, eqOk_ni, eqOk_in, frS_frz, frS_own, frS_nil, List.replicate, List.getElem?_cons_zero, List.getElem?_cons_succ, List.set_cons_zero, List.set_cons_succ, List.cons_append, List.nil_append, List.length_cons, List.length_nil, List.take_succ_cons, List.take_zero, List.map_cons, List.map_nil, true_and, and_true, D.int.injEq, D.str.injEq, D.lst.injEq, decide_eq_true_eq, ite_true, ite_false, if_true, if_false, reduceIte, Bool.false_eq_true, false_and, and_false, Bool.not_true, Bool.not_false, Option.some.injEq, exists_eq_left', exists_eq_left, exists_and_left, List.nodup_cons, List.nodup_nil, List.not_mem_nil, not_false_eq_true, List.mem_cons, or_false, false_or, forall_eq, forall_eq_or_imp, Slot.own.injEq, Slot.par.injEq, Slot.frz.injEq, reduceCtorEq, exists_eq', exists_eq, exists_false, decide_true, decide_false, or_self, false_implies, implies_true, forall_const, eq_self, rd_lkL1, rd_lkL2, rd_lkL3, rd_lkE1, rd_lkE2, rd_thE1, rd_thE2, rd_lkF1, rd_lkX1, rd_lkX2, rd_lkX3, rd_mvS1, rd_mvS2, rd_mvE1, rd_mvE2, rd_lsO1, rd_lsO2, rd_tpO1, rd_sol1, rd_sol2, rd_sol3, rd_sol4, rd_sol5, rd_sol6, rd_sol7, rd_flat1, rd_flat2, rd_flat3, rd_flat4, rd_flat5, rd_asD1, rd_asD2, rd_asQ1, rd_asQ2, rd_asB, rd_asI, rd_p1, rd_p2, rd_pI0, rd_pI2, rd_pU, rd_pAdd1, rd_pAdd2, rd_pAdd3, rd_pAdd4, rd_pMul1, rd_pMul2, rd_pMul3, rd_pLen1, rd_pLen2, rd_pLen3, rd_pInt1, rd_pAbs, rd_pList1, rd_pList2, rd_pList3, rd_pCut1, rd_pCut2, rd_pCut3, rd_non1, rd_non2, rd_non3, rd_non4, rd_non5, rd_non6, rd_isStr, rd_pIx1, rd_pIx2, rd_pIx3, rd_pJoin1, rd_upS1, rd_upS2, rd_out1, rd_out2, rd_out3, rd_out4, rd_asL1, rd_asL2, rd_putL1, rd_putL2, rd_lkT1, rd_lkT2, rd_lkT3, rd_thT, rd_mvT1, rd_mvT2, rd_asDT, rd_asQT, rd_upT1, rd_upT2, rd_outT1, rd_outT2, rd_ref1, rd_ref2, rd_ref3, rd_ref4, rd_flat6, rd_flats0, rd_flats1, rd_er1, rd_er2, rd_er3, rd_er4, rd_ers0, rd_ers1, rd_ersL, rd_stA, rd_isi1, rd_isi2, rd_isi3, rd_isi4, rd_isX, rd_draw, rd_take, rd_pLt, rd_pLe, rd_pGt, rd_pGe, rd_pTuple1, rd_pTuple2, rd_pStr1, rd_pStr2, rd_pInt, rd_pIntS, rd_pIntB, rd_pOrd, rd_pMax, rd_pSplit, rd_pPart, rd_stO, rd_pCutS, rd_solB, rd_pIn1, rd_pNotIn1, rd_pIn2, rd_pIn3, rd_pNotIn2, rd_pNotIn3, rd_pBls, rd_pJoin2, rd_at0, rd_at1, rd_at2, rd_at3, rd_atL, rd_ixL, rd_pRepr, rd_pGt2, rd_pLt2, rd_pListU1, rd_pListU2, rd_pListU3, rd_pListU4, rd_pSindex, rd_pStarts, rd_f1, rd_pSort, rd_pSortD, rd_oF, rd_qF, rd_fCB, rd_cat, rd_rep, rd_rev, rd_isB, rd_notB, rd_ixA1, rd_ixA2, rd_ixA3, rd_ixA4, rd_ixA5, rd_treS1, rd_treS2, rd_setT1, rd_setT2, rd_slT1, rd_slT2, rd_slT3, rd_pListF]
    exact ⟨.inr (by decide), by decide, _, _, rfl, rfl⟩
  · simp only [sSeq, sSet, sIf, sRet, sRetN, sNext, sBreak, sCont, sDrop, sNever, sAsg, sPar, sAug, sApp, sExt, sSetI, sForI, sWhile, sMid, sTry, sRaise, qVar, qC, qOp, qUn, qB, qAnd, qOr, qNot, qAndV, qOrV, qNotV, qIf, qNil, qCons, qCB, qTup, qLst, qCut, qPart, qNo, qM1, qM0, qCall, qChain, qXf, eQ, eVar, eC, eOp, eUn, eIf, eNil, eCons, eCB, eTup, eLst, eO, eCut, eM1, eM0, ePop, eIxV, eAnd, eOr, eNot, eAndV, eOrV, eNotV, eChain, eCutE, eNo, ePart, oSu, iS, tB', tQ, tYes', oE, oPlus, oRep, oTre, oNew, oCompT, iR3, sPut, plVar, plIx, sIns, ePopAt, eRev, oLst, oMove, oIf, oCall, oSt, oComp, iL, iT, iR1, iR2, gN, gT, gsNil, gsCons, cNil, cVal, cRef, free_0, free_succ, ends, outs, nils, resolve, putBack, allRef, refs, wipeE, pIsN, pNotN, pEq, pNe, eqOk_ii, eqOk_ss, eqOk_bb, eqOk_ni, eqOk_in, frS_frz, frS_own, frS_nil, List.replicate, List.getElem?_cons_zero, List.getElem?_cons_succ, List.set_cons_zero, List.set_cons_succ, List.cons_append, List.nil_append, List.length_cons, List.length_nil, List.take_succ_cons, List.take_zero, List.map_cons, List.map_nil, true_and, and_true, D.int.injEq, D.str.injEq, D.lst.injEq, decide_eq_true_eq, ite_true, ite_false, if_true, if_false, reduceIte, Bool.false_eq_true, false_and, and_false, Bool.not_true, Bool.not_false, Option.some.injEq, exists_eq_left', exists_eq_left, exists_and_left, List.nodup_cons, List.nodup_nil, List.not_mem_nil, not_false_eq_true, List.mem_cons, or_false, false_or, forall_eq, forall_eq_or_imp, Slot.own.injEq, Slot.par.injEq, Slot.frz.injEq, reduceCtorEq, exists_eq', exists_eq, exists_false, decide_true, decide_false, or_self, false_implies, implies_true, forall_const, eq_self, rd_lkL1, rd_lkL2, rd_lkL3, rd_lkE1, rd_lkE2, rd_thE1, rd_thE2, rd_lkF1, rd_lkX1, rd_lkX2, rd_lkX3, rd_mvS1, rd_mvS2, rd_mvE1, rd_mvE2, rd_lsO1, rd_lsO2, rd_tpO1, rd_sol1, rd_sol2, rd_sol3, rd_sol4, rd_sol5, rd_sol6, rd_sol7, rd_flat1, rd_flat2, rd_flat3, rd_flat4, rd_flat5, rd_asD1, rd_asD2, rd_asQ1, rd_asQ2, rd_asB, rd_asI, rd_p1, rd_p2, rd_pI0, rd_pI2, rd_pU, rd_pAdd1, rd_pAdd2, rd_pAdd3, rd_pAdd4, rd_pMul1, rd_pMul2, rd_pMul3, rd_pLen1, rd_pLen2, rd_pLen3, rd_pInt1, rd_pAbs, rd_pList1, rd_pList2, rd_pList3, rd_pCut1, rd_pCut2, rd_pCut3, rd_non1, rd_non2, rd_non3, rd_non4, rd_non5, rd_non6, rd_isStr, rd_pIx1, rd_pIx2, rd_pIx3, rd_pJoin1, rd_upS1, rd_upS2, rd_out1, rd_out2, rd_out3, rd_out4, rd_asL1, rd_asL2, rd_putL1, rd_putL2, rd_lkT1, rd_lkT2, rd_lkT3, rd_thT, rd_mvT1, rd_mvT2, rd_asDT, rd_asQT, rd_upT1, rd_upT2, rd_outT1, rd_outT2, rd_ref1, rd_ref2, rd_ref3, rd_ref4, rd_flat6, rd_flats0, rd_flats1, rd_er1, rd_er2, rd_er3, rd_er4, rd_ers0, rd_ers1, rd_ersL, rd_stA, rd_isi1, rd_isi2, rd_isi3, rd_isi4, rd_isX, rd_draw, rd_take, rd_pLt, rd_pLe, rd_pGt, rd_pGe, rd_pTuple1, rd_pTuple2, rd_pStr1, rd_pStr2, rd_pInt, rd_pIntS, rd_pIntB, rd_pOrd, rd_pMax, rd_pSplit, rd_pPart, rd_stO, rd_pCutS, rd_solB, rd_pIn1, rd_pNotIn1, rd_pIn2, rd_pIn3, rd_pNotIn2, rd_pNotIn3, rd_pBls, rd_pJoin2, rd_at0, rd_at1, rd_at2, rd_at3, rd_atL, rd_ixL, rd_pRepr, rd_pGt2, rd_pLt2, rd_pListU1, rd_pListU2, rd_pListU3, rd_pListU4, rd_pSindex, rd_pStarts, rd_f1, rd_pSort, rd_pSortD, rd_oF, rd_qF, rd_fCB, rd_cat, rd_rep, rd_rev, rd_isB, rd_notB, rd_ixA1, rd_ixA2, rd_ixA3, rd_ixA4, rd_ixA5, rd_treS1, rd_treS2, rd_setT1, rd_setT2, rd_slT1, rd_slT2, rd_slT3, rd_pListF]
    refine ⟨J_state ns, ⟨s, [], rfl, by simp, rfl⟩, ?_⟩
    rintro i acc env ⟨s, ms, rfl, hm, rfl⟩
    refine ⟨fun d hd => ?_, fun hi => ?_⟩
    · obtain ⟨hi, h2⟩ := List.getElem?_eq_some_iff.mp hd
      rw [List.getElem_map] at h2
      subst h2
      rw [List.length_map] at hi
      simp only [List.length_map, sSeq, sSet, sIf, sRet, sRetN, sNext, sBreak, sCont, sDrop, sNever, sAsg, sPar, sAug, sApp, sExt, sSetI, sForI, sWhile, sMid, sTry, sRaise, qVar, qC, qOp, qUn, qB, qAnd, qOr, qNot, qAndV, qOrV, qNotV, qIf, qNil, qCons, qCB, qTup, qLst, qCut, qPart, qNo, qM1, qM0, qCall, qChain, qXf, eQ, eVar, eC, eOp, eUn, eIf, eNil, eCons, eCB, eTup, eLst, eO, eCut, eM1, eM0, ePop, eIxV, eAnd, eOr, eNot, eAndV, eOrV, eNotV, eChain, eCutE, eNo, ePart, oSu, iS, tB', tQ, tYes', oE, oPlus, oRep, oTre, oNew, oCompT, iR3, sPut, plVar, plIx, sIns, ePopAt, eRev, oLst, oMove, oIf, oCall, oSt, oComp, iL, iT, iR1, iR2, gN, gT, gsNil, gsCons, cNil, cVal, cRef, free_0, free_succ, ends, outs, nils, resolve, putBack, allRef, refs, wipeE, pIsN, pNotN, pEq, pNe, eqOk_ii, eqOk_ss, eqOk_bb, eqOk_ni, eqOk_in, frS_frz, frS_own, frS_nil, List.replicate, List.getElem?_cons_zero, List.getElem?_cons_succ, List.set_cons_zero, List.set_cons_succ, List.cons_append, List.nil_append, List.length_cons, List.length_nil, List.take_succ_cons, List.take_zero, List.map_cons, List.map_nil, true_and, and_true, D.int.injEq, D.str.injEq, D.lst.injEq, decide_eq_true_eq, ite_true, ite_false, if_true, if_false, reduceIte, Bool.false_eq_true, false_and, and_false, Bool.not_true, Bool.not_false, Option.some.injEq, exists_eq_left', exists_eq_left, exists_and_left, List.nodup_cons, List.nodup_nil, List.not_mem_nil, not_false_eq_true, List.mem_cons, or_false, false_or, forall_eq, forall_eq_or_imp, Slot.own.injEq, Slot.par.injEq, Slot.frz.injEq, reduceCtorEq, exists_eq', exists_eq, exists_false, decide_true, decide_false, or_self, false_implies, implies_true, forall_const, eq_self, rd_lkL1, rd_lkL2, rd_lkL3, rd_lkE1, rd_lkE2, rd_thE1, rd_thE2, rd_lkF1, rd_lkX1, rd_lkX2, rd_lkX3, rd_mvS1, rd_mvS2, rd_mvE1, rd_mvE2, rd_lsO1, rd_lsO2, rd_tpO1, rd_sol1, rd_sol2, rd_sol3, rd_sol4, rd_sol5, rd_sol6, rd_sol7, rd_flat1, rd_flat2, rd_flat3, rd_flat4, rd_flat5, rd_asD1, rd_asD2, rd_asQ1, rd_asQ2, rd_asB, rd_asI, rd_p1, rd_p2, rd_pI0, rd_pI2, rd_pU, rd_pAdd1, rd_pAdd2, rd_pAdd3, rd_pAdd4, rd_pMul1, rd_pMul2, rd_pMul3, rd_pLen1, rd_pLen2, rd_pLen3, rd_pInt1, rd_pAbs, rd_pList1, rd_pList2, rd_pList3, rd_pCut1, rd_pCut2, rd_pCut3, rd_non1, rd_non2, rd_non3, rd_non4, rd_non5, rd_non6, rd_isStr, rd_pIx1, rd_pIx2, rd_pIx3, rd_pJoin1, rd_upS1, rd_upS2, rd_out1, rd_out2, rd_out3, rd_out4, rd_asL1, rd_asL2, rd_putL1, rd_putL2, rd_lkT1, rd_lkT2, rd_lkT3, rd_thT, rd_mvT1, rd_mvT2, rd_asDT, rd_asQT, rd_upT1, rd_upT2, rd_outT1, rd_outT2, rd_ref1, rd_ref2, rd_ref3, rd_ref4, rd_flat6, rd_flats0, rd_flats1, rd_er1, rd_er2, rd_er3, rd_er4, rd_ers0, rd_ers1, rd_ersL, rd_stA, rd_isi1, rd_isi2, rd_isi3, rd_isi4, rd_isX, rd_draw, rd_take, rd_pLt, rd_pLe, rd_pGt, rd_pGe, rd_pTuple1, rd_pTuple2, rd_pStr1, rd_pStr2, rd_pInt, rd_pIntS, rd_pIntB, rd_pOrd, rd_pMax, rd_pSplit, rd_pPart, rd_stO, rd_pCutS, rd_solB, rd_pIn1, rd_pNotIn1, rd_pIn2, rd_pIn3, rd_pNotIn2, rd_pNotIn3, rd_pBls, rd_pJoin2, rd_at0, rd_at1, rd_at2, rd_at3, rd_atL, rd_ixL, rd_pRepr, rd_pGt2, rd_pLt2, rd_pListU1, rd_pListU2, rd_pListU3, rd_pListU4, rd_pSindex, rd_pStarts, rd_f1, rd_pSort, rd_pSortD, rd_oF, rd_qF, rd_fCB, rd_cat, rd_rep, rd_rev, rd_isB, rd_notB, rd_ixA1, rd_ixA2, rd_ixA3, rd_ixA4, rd_ixA5, rd_treS1, rd_treS2, rd_setT1, rd_setT2, rd_slT1, rd_slT2, rd_slT3, rd_pListF]
      exact ⟨by omega, s, ms ++ [if ns[i] < 0 then -ns[i] else ns[i]], by simp, by simp; omega, rfl⟩
    · simp only [sSeq, sSet, sIf, sRet, sRetN, sNext, sBreak, sCont, sDrop, sNever, sAsg, sPar, sAug, sApp, sExt, sSetI, sForI, sWhile, sMid, sTry, sRaise, qVar, qC, qOp, qUn, qB, qAnd, qOr, qNot, qAndV, qOrV, qNotV, qIf, qNil, qCons, qCB, qTup, qLst, qCut, qPart, qNo, qM1, qM0, qCall, qChain, qXf, eQ, eVar, eC, eOp, eUn, eIf, eNil, eCons, eCB, eTup, eLst, eO, eCut, eM1, eM0, ePop, eIxV, eAnd, eOr, eNot, eAndV, eOrV, eNotV, eChain, eCutE, eNo, ePart, oSu, iS, tB', tQ, tYes', oE, oPlus, oRep, oTre, oNew, oCompT, iR3, sPut, plVar, plIx, sIns, ePopAt, eRev, oLst, oMove, oIf, oCall, oSt, oComp, iL, iT, iR1, iR2, gN, gT, gsNil, gsCons, cNil, cVal, cRef, free_0, free_succ, ends, outs, nils, resolve, putBack, allRef, refs, wipeE, pIsN, pNotN, pEq, pNe, eqOk_ii, eqOk_ss, eqOk_bb, eqOk_ni, eqOk_in, frS_frz, frS_own, frS_nil, List.replicate, List.getElem?_cons_zero, List.getElem?_cons_succ, List.set_cons_zero, List.set_cons_succ, List.cons_append, List.nil_append, List.length_cons, List.length_nil, List.take_succ_cons, List.take_zero, List.map_cons, List.map_nil, true_and, and_true, D.int.injEq, D.str.injEq, D.lst.injEq, decide_eq_true_eq, ite_true, ite_false, if_true, if_false, reduceIte, Bool.false_eq_true, false_and, and_false, Bool.not_true, Bool.not_false, Option.some.injEq, exists_eq_left', exists_eq_left, exists_and_left, List.nodup_cons, List.nodup_nil, List.not_mem_nil, not_false_eq_true, List.mem_cons, or_false, false_or, forall_eq, forall_eq_or_imp, Slot.own.injEq, Slot.par.injEq, Slot.frz.injEq, reduceCtorEq, exists_eq', exists_eq, exists_false, decide_true, decide_false, or_self, false_implies, implies_true, forall_const, eq_self, rd_lkL1, rd_lkL2, rd_lkL3, rd_lkE1, rd_lkE2, rd_thE1, rd_thE2, rd_lkF1, rd_lkX1, rd_lkX2, rd_lkX3, rd_mvS1, rd_mvS2, rd_mvE1, rd_mvE2, rd_lsO1, rd_lsO2, rd_tpO1, rd_sol1, rd_sol2, rd_sol3, rd_sol4, rd_sol5, rd_sol6, rd_sol7, rd_flat1, rd_flat2, rd_flat3, rd_flat4, rd_flat5, rd_asD1, rd_asD2, rd_asQ1, rd_asQ2, rd_asB, rd_asI, rd_p1, rd_p2, rd_pI0, rd_pI2, rd_pU, rd_pAdd1, rd_pAdd2, rd_pAdd3, rd_pAdd4, rd_pMul1, rd_pMul2, rd_pMul3, rd_pLen1, rd_pLen2, rd_pLen3, rd_pInt1, rd_pAbs, rd_pList1, rd_pList2, rd_pList3, rd_pCut1, rd_pCut2, rd_pCut3, rd_non1, rd_non2, rd_non3, rd_non4, rd_non5, rd_non6, rd_isStr, rd_pIx1, rd_pIx2, rd_pIx3, rd_pJoin1, rd_upS1, rd_upS2, rd_out1, rd_out2, rd_out3, rd_out4, rd_asL1, rd_asL2, rd_putL1, rd_putL2, rd_lkT1, rd_lkT2, rd_lkT3, rd_thT, rd_mvT1, rd_mvT2, rd_asDT, rd_asQT, rd_upT1, rd_upT2, rd_outT1, rd_outT2, rd_ref1, rd_ref2, rd_ref3, rd_ref4, rd_flat6, rd_flats0, rd_flats1, rd_er1, rd_er2, rd_er3, rd_er4, rd_ers0, rd_ers1, rd_ersL, rd_stA, rd_isi1, rd_isi2, rd_isi3, rd_isi4, rd_isX, rd_draw, rd_take, rd_pLt, rd_pLe, rd_pGt, rd_pGe, rd_pTuple1, rd_pTuple2, rd_pStr1, rd_pStr2, rd_pInt, rd_pIntS, rd_pIntB, rd_pOrd, rd_pMax, rd_pSplit, rd_pPart, rd_stO, rd_pCutS, rd_solB, rd_pIn1, rd_pNotIn1, rd_pIn2, rd_pIn3, rd_pNotIn2, rd_pNotIn3, rd_pBls, rd_pJoin2, rd_at0, rd_at1, rd_at2, rd_at3, rd_atL, rd_ixL, rd_pRepr, rd_pGt2, rd_pLt2, rd_pListU1, rd_pListU2, rd_pListU3, rd_pListU4, rd_pSindex, rd_pStarts, rd_f1, rd_pSort, rd_pSortD, rd_oF, rd_qF, rd_fCB, rd_cat, rd_rep, rd_rev, rd_isB, rd_notB, rd_ixA1, rd_ixA2, rd_ixA3, rd_ixA4, rd_ixA5, rd_treS1, rd_treS2, rd_setT1, rd_setT2, rd_slT1, rd_slT2, rd_slT3, rd_pListF]
      exact ⟨ms, rfl, h⟩
theorem pp_law_pick : ∀ as Q X, ps_law_pick as Q X → p_law_pick (ends 2 Q) (as ++ nils (2 - as.length)) := by
  rintro as Q X ⟨xs, rfl, hne, hl, h⟩
  simp only [p_law_pick, sSeq, sSet, sIf, sRet, sRetN, sNext, sBreak, sCont, sDrop, sNever, sAsg, sPar, sAug, sApp, sExt, sSetI, sForI, sWhile, sMid, sTry, sRaise, qVar, qC, qOp, qUn, qB, qAnd, qOr, qNot, qAndV, qOrV, qNotV, qIf, qNil, qCons, qCB, qTup, qLst, qCut, qPart, qNo, qM1, qM0, qCall, qChain, qXf, eQ, eVar, eC, eOp, eUn, eIf, eNil, eCons, eCB, eTup, eLst, eO, eCut, eM1, eM0, ePop, eIxV, eAnd, eOr, eNot, eAndV, eOrV, eNotV, eChain, eCutE, eNo, ePart, oSu, iS, tB', tQ, tYes', oE, oPlus, oRep, oTre, oNew, oCompT, iR3, sPut, plVar, plIx, sIns, ePopAt, eRev, oLst, oMove, oIf, oCall, oSt, oComp, iL, iT, iR1, iR2, gN, gT, gsNil, gsCons, cNil, cVal, cRef, free_0, free_succ, ends, outs, nils, resolve, putBack, allRef, refs, wipeE, pIsN, pNotN, pEq, pNe, eqOk_ii, eqOk_ss, eqOk_bb, eqOk_ni, eqOk_in, frS_frz, frS_own, frS_nil, List.replicate, List.getElem?_cons_zero, List.getElem?_cons_succ, List.set_cons_zero, List.set_cons_succ, List.cons_append, List.nil_append, List.length_cons, List.length_nil, List.take_succ_cons, List.take_zero, List.map_cons, List.map_nil, true_and, and_true, D.int.injEq, D.str.injEq, D.lst.injEq, decide_eq_true_eq, ite_true, ite_false, if_true, if_false, reduceIte, Bool.false_eq_true, false_and, and_false, Bool.not_true, Bool.not_false, Option.some.injEq, exists_eq_left', exists_eq_left, exists_and_left, List.nodup_cons, List.nodup_nil, List.not_mem_nil, not_false_eq_true, List.mem_cons, or_false, false_or, forall_eq, forall_eq_or_imp, Slot.own.injEq, Slot.par.injEq, Slot.frz.injEq, reduceCtorEq, exists_eq', exists_eq, exists_false, decide_true, decide_false, or_self, false_implies, implies_true, forall_const, eq_self, rd_lkL1, rd_lkL2, rd_lkL3, rd_lkE1, rd_lkE2, rd_thE1, rd_thE2, rd_lkF1, rd_lkX1, rd_lkX2, rd_lkX3, rd_mvS1, rd_mvS2, rd_mvE1, rd_mvE2, rd_lsO1, rd_lsO2, rd_tpO1, rd_sol1, rd_sol2, rd_sol3, rd_sol4, rd_sol5, rd_sol6, rd_sol7, rd_flat1, rd_flat2, rd_flat3, rd_flat4, rd_flat5, rd_asD1, rd_asD2, rd_asQ1, rd_asQ2, rd_asB, rd_asI, rd_p1, rd_p2, rd_pI0, rd_pI2, rd_pU, rd_pAdd1, rd_pAdd2, rd_pAdd3, rd_pAdd4, rd_pMul1, rd_pMul2, rd_pMul3, rd_pLen1, rd_pLen2, rd_pLen3, rd_pInt1, rd_pAbs, rd_pList1, rd_pList2, rd_pList3, rd_pCut1, rd_pCut2, rd_pCut3, rd_non1, rd_non2, rd_non3, rd_non4, rd_non5, rd_non6, rd_isStr, rd_pIx1, rd_pIx2, rd_pIx3, rd_pJoin1, rd_upS1, rd_upS2, rd_out1, rd_out2, rd_out3, rd_out4, rd_asL1, rd_asL2, rd_putL1, rd_putL2, rd_lkT1, rd_lkT2, rd_lkT3, rd_thT, rd_mvT1, rd_mvT2, rd_asDT, rd_asQT, rd_upT1, rd_upT2, rd_outT1, rd_outT2, rd_ref1, rd_ref2, rd_ref3, rd_ref4, rd_flat6, rd_flats0, rd_flats1, rd_er1, rd_er2, rd_er3, rd_er4, rd_ers0, rd_ers1, rd_ersL, rd_stA, rd_isi1, rd_isi2, rd_isi3, rd_isi4, rd_isX, rd_draw, rd_take, rd_pLt, rd_pLe, rd_pGt, rd_pGe, rd_pTuple1, rd_pTuple2, rd_pStr1, rd_pStr2, rd_pInt, rd_pIntS, rd_pIntB, rd_pOrd, rd_pMax, rd_pSplit, rd_pPart, rd_stO, rd_pCutS, rd_solB, rd_pIn1, rd_pNotIn1, rd_pIn2, rd_pIn3, rd_pNotIn2, rd_pNotIn3, rd_pBls, rd_pJoin2, rd_at0, rd_at1, rd_at2, rd_at3, rd_atL, rd_ixL, rd_pRepr, rd_pGt2, rd_pLt2, rd_pListU1, rd_pListU2, rd_pListU3, rd_pListU4, rd_pSindex, rd_pStarts, rd_f1, rd_pSort, rd_pSortD, rd_oF, rd_qF, rd_fCB, rd_cat, rd_rep, rd_rev, rd_isB, rd_notB, rd_ixA1, rd_ixA2, rd_ixA3, rd_ixA4, rd_ixA5, rd_treS1, rd_treS2, rd_setT1, rd_setT2, rd_slT1, rd_slT2, rd_slT3, rd_pListF]
  have hp : 0 < xs.length := List.length_pos_iff.mpr hne
  exact ⟨by omega, fun v h0 h1 => at_in h0 (by omega) h⟩
theorem c_counts {a b : List D} {Q : Pu.Slot → Pu.Env → Prop} {X : XP} : ps_kept_counts [.frz (.lst a), .frz (.lst b)] Q X ↔ TwoOk ⟨a, b⟩ ∧ ∀ t : T, t.er = tabD ⟨a, b⟩ → Q (.tre t) [.nil, .nil] := psOf_iff (A := fun a : List D × List D => [.frz (.lst a.1), .frz (.lst a.2)]) (a, b) fun y e => by cases y; cases e; rfl
theorem c_steps {a b : List D} {Q : Pu.Slot → Pu.Env → Prop} {X : XP} : ps_steps_between [.frz (.lst a), .frz (.lst b)] Q X ↔ TwoOk ⟨a, b⟩ ∧ Q (.own (stD (Two.due ⟨a, b⟩))) [.nil, .nil] := psOf_iff (A := fun a : List D × List D => [.frz (.lst a.1), .frz (.lst a.2)]) (a, b) fun y e => by cases y; cases e; rfl
theorem c_most {a b : List D} {Q : Pu.Slot → Pu.Env → Prop} {X : XP} : ps_law_most [.frz (.lst a), .frz (.lst b)] Q X ↔ TwoOk ⟨a, b⟩ ∧ ∀ t : T, MostOk ⟨a, b⟩ t.er → Q (.tre t) [.nil, .nil] := psOf_iff (A := fun a : List D × List D => [.frz (.lst a.1), .frz (.lst a.2)]) (a, b) fun y e => by cases y; cases e; rfl
theorem c_due {a b : List D} {Q : Pu.Slot → Pu.Env → Prop} {X : XP} : ps_law_due [.frz (.lst a), .frz (.lst b)] Q X ↔ TwoOk ⟨a, b⟩ ∧ Q (.frz (.tup [stD (Two.due ⟨a, b⟩), .int (Two.l ⟨a, b⟩ 0 0)])) [.nil, .nil] := psOf_iff (A := fun a : List D × List D => [.frz (.lst a.1), .frz (.lst a.2)]) (a, b) fun y e => by cases y; cases e; rfl
theorem c_lists {Q : Pu.Slot → Pu.Env → Prop} {X : XP} : ps_law_lists [.par stA] Q X ↔ ∀ w, TwoOk w → Q (.frz (.tup [.lst w.a, .lst w.b])) [.par stA] := psOf_iff (A := fun _ : Unit => [.par stA]) () fun y e => rfl
/-! ### the count -/
theorem lcs_nil (a : List D) : lcs a [] = 0 := by cases a <;> simp [lcs]
theorem l_step {w : Two} {i j : Nat} (hi : i < w.a.length) (hj : j < w.b.length) : w.l i j = if w.a[i]? = w.b[j]? then w.l (i + 1) (j + 1) + 1 else max (w.l (i + 1) j) (w.l i (j + 1)) := by
  unfold Two.l
  have ea := List.drop_eq_getElem_cons hi
  have eb := List.drop_eq_getElem_cons hj
  rw [List.getElem?_eq_getElem hi, List.getElem?_eq_getElem hj]
  rw [ea, eb, lcs]
  simp only [Option.some.injEq]
theorem l_end1 {w : Two} {i j : Nat} (hi : w.a.length ≤ i) : w.l i j = 0 := by
  unfold Two.l
  rw [List.drop_eq_nil_of_le hi]
  simp [lcs]
theorem l_end2 {w : Two} {i j : Nat} (hj : w.b.length ≤ j) : w.l i j = 0 := by
  unfold Two.l
  rw [List.drop_eq_nil_of_le hj, lcs_nil]
theorem l_down {w : Two} : ∀ (n i j : Nat), w.a.length - i + (w.b.length - j) ≤ n → w.l (i + 1) j ≤ w.l i j ∧ w.l i (j + 1) ≤ w.l i j ∧ w.l i j ≤ w.l (i + 1) j + 1 ∧ w.l i j ≤ w.l i (j + 1) + 1
  | 0, i, j, h => by
    rw [l_end1 (i := i) (by omega), l_end1 (i := i) (by omega), l_end1 (i := i + 1) (by omega)]
    omega
  | n + 1, i, j, h => by
    by_cases hi : i < w.a.length
    · by_cases hj : j < w.b.length
      · have h1 := l_down (w := w) n (i + 1) j (by omega)
        have h2 := l_down (w := w) n i (j + 1) (by omega)
        have h3 := l_down (w := w) n (i + 1) (j + 1) (by omega)
        rw [l_step hi hj]
        split <;> omega
      · rw [l_end2 (i := i) (j := j) (by omega), l_end2 (i := i + 1) (j := j) (by omega), l_end2 (i := i) (j := j + 1) (by omega)]
        omega
    · rw [l_end1 (i := i) (by omega), l_end1 (i := i) (by omega), l_end1 (i := i + 1) (by omega)]
      omega
/-! ### the table -/
def rowT (g : Nat → Nat → Nat) (m i : Nat) : T := .lst ((List.range (m + 1)).map fun j : Nat => .leaf (.int (g i j)))
def tT (g : Nat → Nat → Nat) (n m : Nat) : T := .lst ((List.range (n + 1)).map fun i => rowT g m i)
def rowG (g : Nat → Nat → Nat) (m i : Nat) : D := .lst ((List.range (m + 1)).map fun j : Nat => .int (g i j))
def tabG (g : Nat → Nat → Nat) (n m : Nat) : D := .lst ((List.range (n + 1)).map fun i => rowG g m i)
theorem ers_map {α : Type} (f : α → T) : ∀ xs : List α, T.ers (xs.map f) = xs.map fun x => (f x).er
  | [] => rfl
  | x :: xs => by rw [List.map_cons, T.ers, ers_map f xs]; rfl
theorem rowT_er {g : Nat → Nat → Nat} {m i : Nat} : (rowT g m i).er = rowG g m i := by
  rw [rowT, T.er, ers_map]
  rfl
theorem tT_er {g : Nat → Nat → Nat} {n m : Nat} : (tT g n m).er = tabG g n m := by
  rw [tT, T.er, ers_map]
  simp only [rowT_er]
  rfl
theorem rng_get {α : Type} {f : Nat → α} {n i : Nat} (h : i < n) : ((List.range n).map f)[i]? = some (f i) := by
  rw [List.getElem?_map, List.getElem?_range h]; rfl
theorem ix_tab {g : Nat → Nat → Nat} {n m i : Nat} (h : i ≤ n) {Q : D → Prop} : pIx (tabG g n m) (.int i) Q ↔ Q (rowG g m i) := by
  simp only [tabG, sSeq, sSet, sIf, sRet, sRetN, sNext, sBreak, sCont, sDrop, sNever, sAsg, sPar, sAug, sApp, sExt, sSetI, sForI, sWhile, sMid, sTry, sRaise, qVar, qC, qOp, qUn, qB, qAnd, qOr, qNot, qAndV, qOrV, qNotV, qIf, qNil, qCons, qCB, qTup, qLst, qCut, qPart, qNo, qM1, qM0, qCall, qChain, qXf, eQ, eVar, eC, eOp, eUn, eIf, eNil, eCons, eCB, eTup, eLst, eO, eCut, eM1, eM0, ePop, eIxV, eAnd, eOr, eNot, eAndV, eOrV, eNotV, eChain, eCutE, eNo, ePart, oSu, iS, tB', tQ, tYes', oE, oPlus, oRep, oTre, oNew, oCompT, iR3, sPut, plVar, plIx, sIns, ePopAt, eRev, oLst, oMove, oIf, oCall, oSt, oComp, iL, iT, iR1, iR2, gN, gT, gsNil, gsCons, cNil, cVal, cRef, free_0, free_succ, ends, outs, nils, resolve, putBack, allRef, refs, wipeE, pIsN, pNotN, pEq, pNe, eqOk_ii, eqOk_ss, eqOk_bb, eqOk_ni, eqOk_in, frS_frz, frS_own, frS_nil, List.replicate, List.getElem?_cons_zero, List.getElem?_cons_succ, List.set_cons_zero, List.set_cons_succ, List.cons_append, List.nil_append, List.length_cons, List.length_nil, List.take_succ_cons, List.take_zero, List.map_cons, List.map_nil, true_and, and_true, D.int.injEq, D.str.injEq, D.lst.injEq, decide_eq_true_eq, ite_true, ite_false, if_true, if_false, reduceIte, Bool.false_eq_true, false_and, and_false, Bool.not_true, Bool.not_false, Option.some.injEq, exists_eq_left', exists_eq_left, exists_and_left, List.nodup_cons, List.nodup_nil, List.not_mem_nil, not_false_eq_true, List.mem_cons, or_false, false_or, forall_eq, forall_eq_or_imp, Slot.own.injEq, Slot.par.injEq, Slot.frz.injEq, reduceCtorEq, exists_eq', exists_eq, exists_false, decide_true, decide_false, or_self, false_implies, implies_true, forall_const, eq_self, rd_lkL1, rd_lkL2, rd_lkL3, rd_lkE1, rd_lkE2, rd_thE1, rd_thE2, rd_lkF1, rd_lkX1, rd_lkX2, rd_lkX3, rd_mvS1, rd_mvS2, rd_mvE1, rd_mvE2, rd_lsO1, rd_lsO2, rd_tpO1, rd_sol1, rd_sol2, rd_sol3, rd_sol4, rd_sol5, rd_sol6, rd_sol7, rd_flat1, rd_flat2, rd_flat3, rd_flat4, rd_flat5, rd_asD1, rd_asD2, rd_asQ1, rd_asQ2, rd_asB, rd_asI, rd_p1, rd_p2, rd_pI0, rd_pI2, rd_pU, rd_pAdd1, rd_pAdd2, rd_pAdd3, rd_pAdd4, rd_pMul1, rd_pMul2, rd_pMul3, rd_pLen1, rd_pLen2, rd_pLen3, rd_pInt1, rd_pAbs, rd_pList1, rd_pList2, rd_pList3, rd_pCut1, rd_pCut2, rd_pCut3, rd_non1, rd_non2, rd_non3, rd_non4, rd_non5, rd_non6, rd_isStr, rd_pIx1, rd_pIx2, rd_pIx3, rd_pJoin1, rd_upS1, rd_upS2, rd_out1, rd_out2, rd_out3, rd_out4, rd_asL1, rd_asL2, rd_putL1, rd_putL2, rd_lkT1, rd_lkT2, rd_lkT3, rd_thT, rd_mvT1, rd_mvT2, rd_asDT, rd_asQT, rd_upT1, rd_upT2, rd_outT1, rd_outT2, rd_ref1, rd_ref2, rd_ref3, rd_ref4, rd_flat6, rd_flats0, rd_flats1, rd_er1, rd_er2, rd_er3, rd_er4, rd_ers0, rd_ers1, rd_ersL, rd_stA, rd_isi1, rd_isi2, rd_isi3, rd_isi4, rd_isX, rd_draw, rd_take, rd_pLt, rd_pLe, rd_pGt, rd_pGe, rd_pTuple1, rd_pTuple2, rd_pStr1, rd_pStr2, rd_pInt, rd_pIntS, rd_pIntB, rd_pOrd, rd_pMax, rd_pSplit, rd_pPart, rd_stO, rd_pCutS, rd_solB, rd_pIn1, rd_pNotIn1, rd_pIn2, rd_pIn3, rd_pNotIn2, rd_pNotIn3, rd_pBls, rd_pJoin2, rd_at0, rd_at1, rd_at2, rd_at3, rd_atL, rd_ixL, rd_pRepr, rd_pGt2, rd_pLt2, rd_pListU1, rd_pListU2, rd_pListU3, rd_pListU4, rd_pSindex, rd_pStarts, rd_f1, rd_pSort, rd_pSortD, rd_oF, rd_qF, rd_fCB, rd_cat, rd_rep, rd_rev, rd_isB, rd_notB, rd_ixA1, rd_ixA2, rd_ixA3, rd_ixA4, rd_ixA5, rd_treS1, rd_treS2, rd_setT1, rd_setT2, rd_slT1, rd_slT2, rd_slT3, rd_pListF]
  rw [Pu.atI_nat (rng_get (by omega))]
  simp
theorem ix_row {g : Nat → Nat → Nat} {m i j : Nat} (h : j ≤ m) {Q : D → Prop} : pIx (rowG g m i) (.int j) Q ↔ Q (.int (g i j)) := by
  simp only [rowG, sSeq, sSet, sIf, sRet, sRetN, sNext, sBreak, sCont, sDrop, sNever, sAsg, sPar, sAug, sApp, sExt, sSetI, sForI, sWhile, sMid, sTry, sRaise, qVar, qC, qOp, qUn, qB, qAnd, qOr, qNot, qAndV, qOrV, qNotV, qIf, qNil, qCons, qCB, qTup, qLst, qCut, qPart, qNo, qM1, qM0, qCall, qChain, qXf, eQ, eVar, eC, eOp, eUn, eIf, eNil, eCons, eCB, eTup, eLst, eO, eCut, eM1, eM0, ePop, eIxV, eAnd, eOr, eNot, eAndV, eOrV, eNotV, eChain, eCutE, eNo, ePart, oSu, iS, tB', tQ, tYes', oE, oPlus, oRep, oTre, oNew, oCompT, iR3, sPut, plVar, plIx, sIns, ePopAt, eRev, oLst, oMove, oIf, oCall, oSt, oComp, iL, iT, iR1, iR2, gN, gT, gsNil, gsCons, cNil, cVal, cRef, free_0, free_succ, ends, outs, nils, resolve, putBack, allRef, refs, wipeE, pIsN, pNotN, pEq, pNe, eqOk_ii, eqOk_ss, eqOk_bb, eqOk_ni, eqOk_in, frS_frz, frS_own, frS_nil, List.replicate, List.getElem?_cons_zero, List.getElem?_cons_succ, List.set_cons_zero, List.set_cons_succ, List.cons_append, List.nil_append, List.length_cons, List.length_nil, List.take_succ_cons, List.take_zero, List.map_cons, List.map_nil, true_and, and_true, D.int.injEq, D.str.injEq, D.lst.injEq, decide_eq_true_eq, ite_true, ite_false, if_true, if_false, reduceIte, Bool.false_eq_true, false_and, and_false, Bool.not_true, Bool.not_false, Option.some.injEq, exists_eq_left', exists_eq_left, exists_and_left, List.nodup_cons, List.nodup_nil, List.not_mem_nil, not_false_eq_true, List.mem_cons, or_false, false_or, forall_eq, forall_eq_or_imp, Slot.own.injEq, Slot.par.injEq, Slot.frz.injEq, reduceCtorEq, exists_eq', exists_eq, exists_false, decide_true, decide_false, or_self, false_implies, implies_true, forall_const, eq_self, rd_lkL1, rd_lkL2, rd_lkL3, rd_lkE1, rd_lkE2, rd_thE1, rd_thE2, rd_lkF1, rd_lkX1, rd_lkX2, rd_lkX3, rd_mvS1, rd_mvS2, rd_mvE1, rd_mvE2, rd_lsO1, rd_lsO2, rd_tpO1, rd_sol1, rd_sol2, rd_sol3, rd_sol4, rd_sol5, rd_sol6, rd_sol7, rd_flat1, rd_flat2, rd_flat3, rd_flat4, rd_flat5, rd_asD1, rd_asD2, rd_asQ1, rd_asQ2, rd_asB, rd_asI, rd_p1, rd_p2, rd_pI0, rd_pI2, rd_pU, rd_pAdd1, rd_pAdd2, rd_pAdd3, rd_pAdd4, rd_pMul1, rd_pMul2, rd_pMul3, rd_pLen1, rd_pLen2, rd_pLen3, rd_pInt1, rd_pAbs, rd_pList1, rd_pList2, rd_pList3, rd_pCut1, rd_pCut2, rd_pCut3, rd_non1, rd_non2, rd_non3, rd_non4, rd_non5, rd_non6, rd_isStr, rd_pIx1, rd_pIx2, rd_pIx3, rd_pJoin1, rd_upS1, rd_upS2, rd_out1, rd_out2, rd_out3, rd_out4, rd_asL1, rd_asL2, rd_putL1, rd_putL2, rd_lkT1, rd_lkT2, rd_lkT3, rd_thT, rd_mvT1, rd_mvT2, rd_asDT, rd_asQT, rd_upT1, rd_upT2, rd_outT1, rd_outT2, rd_ref1, rd_ref2, rd_ref3, rd_ref4, rd_flat6, rd_flats0, rd_flats1, rd_er1, rd_er2, rd_er3, rd_er4, rd_ers0, rd_ers1, rd_ersL, rd_stA, rd_isi1, rd_isi2, rd_isi3, rd_isi4, rd_isX, rd_draw, rd_take, rd_pLt, rd_pLe, rd_pGt, rd_pGe, rd_pTuple1, rd_pTuple2, rd_pStr1, rd_pStr2, rd_pInt, rd_pIntS, rd_pIntB, rd_pOrd, rd_pMax, rd_pSplit, rd_pPart, rd_stO, rd_pCutS, rd_solB, rd_pIn1, rd_pNotIn1, rd_pIn2, rd_pIn3, rd_pNotIn2, rd_pNotIn3, rd_pBls, rd_pJoin2, rd_at0, rd_at1, rd_at2, rd_at3, rd_atL, rd_ixL, rd_pRepr, rd_pGt2, rd_pLt2, rd_pListU1, rd_pListU2, rd_pListU3, rd_pListU4, rd_pSindex, rd_pStarts, rd_f1, rd_pSort, rd_pSortD, rd_oF, rd_qF, rd_fCB, rd_cat, rd_rep, rd_rev, rd_isB, rd_notB, rd_ixA1, rd_ixA2, rd_ixA3, rd_ixA4, rd_ixA5, rd_treS1, rd_treS2, rd_setT1, rd_setT2, rd_slT1, rd_slT2, rd_slT3, rd_pListF]
  rw [Pu.atI_nat (rng_get (by omega))]
  simp
def updG (g : Nat → Nat → Nat) (i j v : Nat) : Nat → Nat → Nat := fun i' j' => if i' = i ∧ j' = j then v else g i' j'
theorem range_set {α : Type} {f : Nat → α} {n i : Nat} {x : α} (h : i < n) : ((List.range n).map f).set i x = (List.range n).map fun k => if k = i then x else f k := by
  apply List.ext_getElem?
  intro k
  by_cases hk : k < n
  · rw [rng_get hk]
    by_cases e : i = k
    · subst e
      rw [List.getElem?_set_self (by simpa using hk)]
      simp
    · rw [List.getElem?_set_ne e, rng_get hk, if_neg (fun z => e z.symm)]
  · rw [List.getElem?_eq_none (by simp; omega), List.getElem?_eq_none (by simp; omega)]
theorem tT_put {g : Nat → Nat → Nat} {n m i j v : Nat} (hi : i ≤ n) (hj : j ≤ m) : (tT g n m).put [i] (.lst (((List.range (m + 1)).map fun j : Nat => T.leaf (.int (g i j))).set j (.leaf (.int v)))) = tT (updG g i j v) n m := by
  have hk : (tT g n m).kids[i]? = some (rowT g m i) := rng_get (by omega)
  simp only [T.put, hk]
  show T.lst (((List.range (n + 1)).map fun i => rowT g m i).set i _) = _
  rw [range_set (by omega), range_set (by omega), tT]
  congr 1
  apply List.map_congr_left
  intro k _
  by_cases e : k = i
  · subst e
    rw [if_pos rfl, rowT]
    congr 1
    apply List.map_congr_left
    intro c _
    by_cases e2 : c = j
    · subst e2; simp [updG]
    · simp [updG, e2]
  · rw [if_neg e, rowT, rowT]
    congr 1
    apply List.map_congr_left
    intro c _
    simp [updG, e]
theorem ok_it {k : Nat} {d : D} (h : ItOk d) : D.ok k d := by
  rcases h with rfl | ⟨t, rfl, ht⟩
  · exact ok_non.mpr trivial
  · exact ok_str.mpr (okStr_of (x := SX.S t) ht)
theorem ok_tx {k : Nat} {d : D} (h : TxOk d) : D.ok k d := ok_it (.inr h)
theorem eqOk_it {x y : D} (h1 : ItOk x) (h2 : TxOk y) : eqOk x y = true := eqOk_ok (ok_it h1) (ok_tx h2)
def I_kc (a b : List D) (k : Nat) (env : Pu.Env) : Prop := ∃ g x3 x4, env = [.frz (.lst a), .frz (.lst b), .tre (tT g a.length b.length), x3, x4, .nil] ∧ (∀ i j, a.length - k ≤ i → i ≤ a.length → j ≤ b.length → g i j = Two.l ⟨a, b⟩ i j) ∧ (∀ i, g i b.length = 0) ∧ frS x3 = true ∧ frS x4 = true
def J_kc (a b : List D) (i k : Nat) (env : Pu.Env) : Prop := ∃ g x4, env = [.frz (.lst a), .frz (.lst b), .tre (tT g a.length b.length), .frz (.int i), x4, .nil] ∧ (∀ i' j, i + 1 ≤ i' → i' ≤ a.length → j ≤ b.length → g i' j = Two.l ⟨a, b⟩ i' j) ∧ (∀ j, b.length - k ≤ j → j ≤ b.length → g i j = Two.l ⟨a, b⟩ i j) ∧ (∀ i, g i b.length = 0) ∧ frS x4 = true
theorem pp_kept_counts : ∀ as Q X, ps_kept_counts as Q X → p_kept_counts (ends 2 Q) (as ++ nils (6 - as.length)) := by
  rintro as Q X ⟨⟨a, b⟩, rfl, hk, h⟩
  dsimp only at hk h
  have e2 := big
  have la := hk.1
  have lb := hk.2.1
  dsimp only at la lb
  simp only [p_kept_counts, sSeq, sSet, sIf, sRet, sRetN, sNext, sBreak, sCont, sDrop, sNever, sAsg, sPar, sAug, sApp, sExt, sSetI, sForI, sWhile, sMid, sTry, sRaise, qVar, qC, qOp, qUn, qB, qAnd, qOr, qNot, qAndV, qOrV, qNotV, qIf, qNil, qCons, qCB, qTup, qLst, qCut, qPart, qNo, qM1, qM0, qCall, qChain, qXf, eQ, eVar, eC, eOp, eUn, eIf, eNil, eCons, eCB, eTup, eLst, eO, eCut, eM1, eM0, ePop, eIxV, eAnd, eOr, eNot, eAndV, eOrV, eNotV, eChain, eCutE, eNo, ePart, oSu, iS, tB', tQ, tYes', oE, oPlus, oRep, oTre, oNew, oCompT, iR3, sPut, plVar, plIx, sIns, ePopAt, eRev, oLst, oMove, oIf, oCall, oSt, oComp, iL, iT, iR1, iR2, gN, gT, gsNil, gsCons, cNil, cVal, cRef, free_0, free_succ, ends, outs, nils, resolve, putBack, allRef, refs, wipeE, pIsN, pNotN, pEq, pNe, eqOk_ii, eqOk_ss, eqOk_bb, eqOk_ni, eqOk_in, frS_frz, frS_own, frS_nil, List.replicate, List.getElem?_cons_zero, List.getElem?_cons_succ, List.set_cons_zero, List.set_cons_succ, List.cons_append, List.nil_append, List.length_cons, List.length_nil, List.take_succ_cons, List.take_zero, List.map_cons, List.map_nil, true_and, and_true, D.int.injEq, D.str.injEq, D.lst.injEq, decide_eq_true_eq, ite_true, ite_false, if_true, if_false, reduceIte, Bool.false_eq_true, false_and, and_false, Bool.not_true, Bool.not_false, Option.some.injEq, exists_eq_left', exists_eq_left, exists_and_left, List.nodup_cons, List.nodup_nil, List.not_mem_nil, not_false_eq_true, List.mem_cons, or_false, false_or, forall_eq, forall_eq_or_imp, Slot.own.injEq, Slot.par.injEq, Slot.frz.injEq, reduceCtorEq, exists_eq', exists_eq, exists_false, decide_true, decide_false, or_self, false_implies, implies_true, forall_const, eq_self, rd_lkL1, rd_lkL2, rd_lkL3, rd_lkE1, rd_lkE2, rd_thE1, rd_thE2, rd_lkF1, rd_lkX1, rd_lkX2, rd_lkX3, rd_mvS1, rd_mvS2, rd_mvE1, rd_mvE2, rd_lsO1, rd_lsO2, rd_tpO1, rd_sol1, rd_sol2, rd_sol3, rd_sol4, rd_sol5, rd_sol6, rd_sol7, rd_flat1, rd_flat2, rd_flat3, rd_flat4, rd_flat5, rd_asD1, rd_asD2, rd_asQ1, rd_asQ2, rd_asB, rd_asI, rd_p1, rd_p2, rd_pI0, rd_pI2, rd_pU, rd_pAdd1, rd_pAdd2, rd_pAdd3, rd_pAdd4, rd_pMul1, rd_pMul2, rd_pMul3, rd_pLen1, rd_pLen2, rd_pLen3, rd_pInt1, rd_pAbs, rd_pList1, rd_pList2, rd_pList3, rd_pCut1, rd_pCut2, rd_pCut3, rd_non1, rd_non2, rd_non3, rd_non4, rd_non5, rd_non6, rd_isStr, rd_pIx1, rd_pIx2, rd_pIx3, rd_pJoin1, rd_upS1, rd_upS2, rd_out1, rd_out2, rd_out3, rd_out4, rd_asL1, rd_asL2, rd_putL1, rd_putL2, rd_lkT1, rd_lkT2, rd_lkT3, rd_thT, rd_mvT1, rd_mvT2, rd_asDT, rd_asQT, rd_upT1, rd_upT2, rd_outT1, rd_outT2, rd_ref1, rd_ref2, rd_ref3, rd_ref4, rd_flat6, rd_flats0, rd_flats1, rd_er1, rd_er2, rd_er3, rd_er4, rd_ers0, rd_ers1, rd_ersL, rd_stA, rd_isi1, rd_isi2, rd_isi3, rd_isi4, rd_isX, rd_draw, rd_take, rd_pLt, rd_pLe, rd_pGt, rd_pGe, rd_pTuple1, rd_pTuple2, rd_pStr1, rd_pStr2, rd_pInt, rd_pIntS, rd_pIntB, rd_pOrd, rd_pMax, rd_pSplit, rd_pPart, rd_stO, rd_pCutS, rd_solB, rd_pIn1, rd_pNotIn1, rd_pIn2, rd_pIn3, rd_pNotIn2, rd_pNotIn3, rd_pBls, rd_pJoin2, rd_at0, rd_at1, rd_at2, rd_at3, rd_atL, rd_ixL, rd_pRepr, rd_pGt2, rd_pLt2, rd_pListU1, rd_pListU2, rd_pListU3, rd_pListU4, rd_pSindex, rd_pStarts, rd_f1, rd_pSort, rd_pSortD, rd_oF, rd_qF, rd_fCB, rd_cat, rd_rep, rd_rev, rd_isB, rd_notB, rd_ixA1, rd_ixA2, rd_ixA3, rd_ixA4, rd_ixA5, rd_treS1, rd_treS2, rd_setT1, rd_setT2, rd_slT1, rd_slT2, rd_slT3, rd_pListF]
  refine ⟨by omega, fun k acc env => env = [.frz (.lst a), .frz (.lst b), .nil, .nil, .nil, .nil] ∧ acc = (List.range k).map (fun i => rowT (fun _ _ => 0) b.length i), ⟨rfl, rfl⟩, ?_⟩
  rintro k acc env ⟨rfl, rfl⟩
  refine ⟨fun d hd => ?_, fun hi => ?_⟩
  · obtain ⟨hi, _⟩ := List.getElem?_eq_some_iff.mp hd
    rw [rng_len] at hi
    simp only [oRep, rd_rep, sSeq, sSet, sIf, sRet, sRetN, sNext, sBreak, sCont, sDrop, sNever, sAsg, sPar, sAug, sApp, sExt, sSetI, sForI, sWhile, sMid, sTry, sRaise, qVar, qC, qOp, qUn, qB, qAnd, qOr, qNot, qAndV, qOrV, qNotV, qIf, qNil, qCons, qCB, qTup, qLst, qCut, qPart, qNo, qM1, qM0, qCall, qChain, qXf, eQ, eVar, eC, eOp, eUn, eIf, eNil, eCons, eCB, eTup, eLst, eO, eCut, eM1, eM0, ePop, eIxV, eAnd, eOr, eNot, eAndV, eOrV, eNotV, eChain, eCutE, eNo, ePart, oSu, iS, tB', tQ, tYes', oE, oPlus, oRep, oTre, oNew, oCompT, iR3, sPut, plVar, plIx, sIns, ePopAt, eRev, oLst, oMove, oIf, oCall, oSt, oComp, iL, iT, iR1, iR2, gN, gT, gsNil, gsCons, cNil, cVal, cRef, free_0, free_succ, ends, outs, nils, resolve, putBack, allRef, refs, wipeE, pIsN, pNotN, pEq, pNe, eqOk_ii, eqOk_ss, eqOk_bb, eqOk_ni, eqOk_in, frS_frz, frS_own, frS_nil, List.replicate, List.getElem?_cons_zero, List.getElem?_cons_succ, List.set_cons_zero, List.set_cons_succ, List.cons_append, List.nil_append, List.length_cons, List.length_nil, List.take_succ_cons, List.take_zero, List.map_cons, List.map_nil, true_and, and_true, D.int.injEq, D.str.injEq, D.lst.injEq, decide_eq_true_eq, ite_true, ite_false, if_true, if_false, reduceIte, Bool.false_eq_true, false_and, and_false, Bool.not_true, Bool.not_false, Option.some.injEq, exists_eq_left', exists_eq_left, exists_and_left, List.nodup_cons, List.nodup_nil, List.not_mem_nil, not_false_eq_true, List.mem_cons, or_false, false_or, forall_eq, forall_eq_or_imp, Slot.own.injEq, Slot.par.injEq, Slot.frz.injEq, reduceCtorEq, exists_eq', exists_eq, exists_false, decide_true, decide_false, or_self, false_implies, implies_true, forall_const, eq_self, rd_lkL1, rd_lkL2, rd_lkL3, rd_lkE1, rd_lkE2, rd_thE1, rd_thE2, rd_lkF1, rd_lkX1, rd_lkX2, rd_lkX3, rd_mvS1, rd_mvS2, rd_mvE1, rd_mvE2, rd_lsO1, rd_lsO2, rd_tpO1, rd_sol1, rd_sol2, rd_sol3, rd_sol4, rd_sol5, rd_sol6, rd_sol7, rd_flat1, rd_flat2, rd_flat3, rd_flat4, rd_flat5, rd_asD1, rd_asD2, rd_asQ1, rd_asQ2, rd_asB, rd_asI, rd_p1, rd_p2, rd_pI0, rd_pI2, rd_pU, rd_pAdd1, rd_pAdd2, rd_pAdd3, rd_pAdd4, rd_pMul1, rd_pMul2, rd_pMul3, rd_pLen1, rd_pLen2, rd_pLen3, rd_pInt1, rd_pAbs, rd_pList1, rd_pList2, rd_pList3, rd_pCut1, rd_pCut2, rd_pCut3, rd_non1, rd_non2, rd_non3, rd_non4, rd_non5, rd_non6, rd_isStr, rd_pIx1, rd_pIx2, rd_pIx3, rd_pJoin1, rd_upS1, rd_upS2, rd_out1, rd_out2, rd_out3, rd_out4, rd_asL1, rd_asL2, rd_putL1, rd_putL2, rd_lkT1, rd_lkT2, rd_lkT3, rd_thT, rd_mvT1, rd_mvT2, rd_asDT, rd_asQT, rd_upT1, rd_upT2, rd_outT1, rd_outT2, rd_ref1, rd_ref2, rd_ref3, rd_ref4, rd_flat6, rd_flats0, rd_flats1, rd_er1, rd_er2, rd_er3, rd_er4, rd_ers0, rd_ers1, rd_ersL, rd_stA, rd_isi1, rd_isi2, rd_isi3, rd_isi4, rd_isX, rd_draw, rd_take, rd_pLt, rd_pLe, rd_pGt, rd_pGe, rd_pTuple1, rd_pTuple2, rd_pStr1, rd_pStr2, rd_pInt, rd_pIntS, rd_pIntB, rd_pOrd, rd_pMax, rd_pSplit, rd_pPart, rd_stO, rd_pCutS, rd_solB, rd_pIn1, rd_pNotIn1, rd_pIn2, rd_pIn3, rd_pNotIn2, rd_pNotIn3, rd_pBls, rd_pJoin2, rd_at0, rd_at1, rd_at2, rd_at3, rd_atL, rd_ixL, rd_pRepr, rd_pGt2, rd_pLt2, rd_pListU1, rd_pListU2, rd_pListU3, rd_pListU4, rd_pSindex, rd_pStarts, rd_f1, rd_pSort, rd_pSortD, rd_oF, rd_qF, rd_fCB, rd_cat, rd_rep, rd_rev, rd_isB, rd_notB, rd_ixA1, rd_ixA2, rd_ixA3, rd_ixA4, rd_ixA5, rd_treS1, rd_treS2, rd_setT1, rd_setT2, rd_slT1, rd_slT2, rd_slT3, rd_pListF]
    have ez : ((b.length : Int) + 1).toNat = b.length + 1 := by omega
    rw [ez]
    refine ⟨by omega, by omega, by omega, by rw [List.length_map, List.length_range]; omega, ?_⟩
    rw [List.range_succ, List.map_append, List.map_cons, List.map_nil]
    congr 2
    rw [rowT]
    congr 1
    rw [List.flatten_replicate_singleton, List.map_replicate]
    apply List.ext_getElem
    · simp
    · intro c h1 h2
      simp
  · rw [rng_len] at hi
    have hk0 : k = a.length + 1 := by omega
    subst hk0
    simp only [sSeq, sSet, sIf, sRet, sRetN, sNext, sBreak, sCont, sDrop, sNever, sAsg, sPar, sAug, sApp, sExt, sSetI, sForI, sWhile, sMid, sTry, sRaise, qVar, qC, qOp, qUn, qB, qAnd, qOr, qNot, qAndV, qOrV, qNotV, qIf, qNil, qCons, qCB, qTup, qLst, qCut, qPart, qNo, qM1, qM0, qCall, qChain, qXf, eQ, eVar, eC, eOp, eUn, eIf, eNil, eCons, eCB, eTup, eLst, eO, eCut, eM1, eM0, ePop, eIxV, eAnd, eOr, eNot, eAndV, eOrV, eNotV, eChain, eCutE, eNo, ePart, oSu, iS, tB', tQ, tYes', oE, oPlus, oRep, oTre, oNew, oCompT, iR3, sPut, plVar, plIx, sIns, ePopAt, eRev, oLst, oMove, oIf, oCall, oSt, oComp, iL, iT, iR1, iR2, gN, gT, gsNil, gsCons, cNil, cVal, cRef, free_0, free_succ, ends, outs, nils, resolve, putBack, allRef, refs, wipeE, pIsN, pNotN, pEq, pNe, eqOk_ii, eqOk_ss, eqOk_bb, eqOk_ni, eqOk_in, frS_frz, frS_own, frS_nil, List.replicate, List.getElem?_cons_zero, List.getElem?_cons_succ, List.set_cons_zero, List.set_cons_succ, List.cons_append, List.nil_append, List.length_cons, List.length_nil, List.take_succ_cons, List.take_zero, List.map_cons, List.map_nil, true_and, and_true, D.int.injEq, D.str.injEq, D.lst.injEq, decide_eq_true_eq, ite_true, ite_false, if_true, if_false, reduceIte, Bool.false_eq_true, false_and, and_false, Bool.not_true, Bool.not_false, Option.some.injEq, exists_eq_left', exists_eq_left, exists_and_left, List.nodup_cons, List.nodup_nil, List.not_mem_nil, not_false_eq_true, List.mem_cons, or_false, false_or, forall_eq, forall_eq_or_imp, Slot.own.injEq, Slot.par.injEq, Slot.frz.injEq, reduceCtorEq, exists_eq', exists_eq, exists_false, decide_true, decide_false, or_self, false_implies, implies_true, forall_const, eq_self, rd_lkL1, rd_lkL2, rd_lkL3, rd_lkE1, rd_lkE2, rd_thE1, rd_thE2, rd_lkF1, rd_lkX1, rd_lkX2, rd_lkX3, rd_mvS1, rd_mvS2, rd_mvE1, rd_mvE2, rd_lsO1, rd_lsO2, rd_tpO1, rd_sol1, rd_sol2, rd_sol3, rd_sol4, rd_sol5, rd_sol6, rd_sol7, rd_flat1, rd_flat2, rd_flat3, rd_flat4, rd_flat5, rd_asD1, rd_asD2, rd_asQ1, rd_asQ2, rd_asB, rd_asI, rd_p1, rd_p2, rd_pI0, rd_pI2, rd_pU, rd_pAdd1, rd_pAdd2, rd_pAdd3, rd_pAdd4, rd_pMul1, rd_pMul2, rd_pMul3, rd_pLen1, rd_pLen2, rd_pLen3, rd_pInt1, rd_pAbs, rd_pList1, rd_pList2, rd_pList3, rd_pCut1, rd_pCut2, rd_pCut3, rd_non1, rd_non2, rd_non3, rd_non4, rd_non5, rd_non6, rd_isStr, rd_pIx1, rd_pIx2, rd_pIx3, rd_pJoin1, rd_upS1, rd_upS2, rd_out1, rd_out2, rd_out3, rd_out4, rd_asL1, rd_asL2, rd_putL1, rd_putL2, rd_lkT1, rd_lkT2, rd_lkT3, rd_thT, rd_mvT1, rd_mvT2, rd_asDT, rd_asQT, rd_upT1, rd_upT2, rd_outT1, rd_outT2, rd_ref1, rd_ref2, rd_ref3, rd_ref4, rd_flat6, rd_flats0, rd_flats1, rd_er1, rd_er2, rd_er3, rd_er4, rd_ers0, rd_ers1, rd_ersL, rd_stA, rd_isi1, rd_isi2, rd_isi3, rd_isi4, rd_isX, rd_draw, rd_take, rd_pLt, rd_pLe, rd_pGt, rd_pGe, rd_pTuple1, rd_pTuple2, rd_pStr1, rd_pStr2, rd_pInt, rd_pIntS, rd_pIntB, rd_pOrd, rd_pMax, rd_pSplit, rd_pPart, rd_stO, rd_pCutS, rd_solB, rd_pIn1, rd_pNotIn1, rd_pIn2, rd_pIn3, rd_pNotIn2, rd_pNotIn3, rd_pBls, rd_pJoin2, rd_at0, rd_at1, rd_at2, rd_at3, rd_atL, rd_ixL, rd_pRepr, rd_pGt2, rd_pLt2, rd_pListU1, rd_pListU2, rd_pListU3, rd_pListU4, rd_pSindex, rd_pStarts, rd_f1, rd_pSort, rd_pSortD, rd_oF, rd_qF, rd_fCB, rd_cat, rd_rep, rd_rev, rd_isB, rd_notB, rd_ixA1, rd_ixA2, rd_ixA3, rd_ixA4, rd_ixA5, rd_treS1, rd_treS2, rd_setT1, rd_setT2, rd_slT1, rd_slT2, rd_slT3, rd_pListF]
    refine ⟨by omega, I_kc a b, ⟨fun _ _ => 0, .nil, .nil, rfl, fun i j h1 h2 h3 => ?_, fun _ => rfl, rfl, rfl⟩, ?_⟩
    · rw [l_end1 (by dsimp only; omega)]
    rintro k env ⟨g, x3, x4, rfl, g1, g2, f3, f4⟩
    refine ⟨fun d hd => ?_, fun hi => ?_⟩
    · obtain ⟨hi', _⟩ := List.getElem?_eq_some_iff.mp hd
      rw [rngD, List.length_map, List.length_range] at hi'
      rw [rngD, rng_get hi'] at hd
      cases hd
      obtain ⟨i, hi⟩ : ∃ i : Nat, ((a.length : Int) - 1 - (k : Int)) = i := ⟨a.length - 1 - k, by omega⟩
      rw [hi]
      have hia : i < a.length := by omega
      have hki : a.length - k = i + 1 := by omega
      simp only [f3, f4, sSeq, sSet, sIf, sRet, sRetN, sNext, sBreak, sCont, sDrop, sNever, sAsg, sPar, sAug, sApp, sExt, sSetI, sForI, sWhile, sMid, sTry, sRaise, qVar, qC, qOp, qUn, qB, qAnd, qOr, qNot, qAndV, qOrV, qNotV, qIf, qNil, qCons, qCB, qTup, qLst, qCut, qPart, qNo, qM1, qM0, qCall, qChain, qXf, eQ, eVar, eC, eOp, eUn, eIf, eNil, eCons, eCB, eTup, eLst, eO, eCut, eM1, eM0, ePop, eIxV, eAnd, eOr, eNot, eAndV, eOrV, eNotV, eChain, eCutE, eNo, ePart, oSu, iS, tB', tQ, tYes', oE, oPlus, oRep, oTre, oNew, oCompT, iR3, sPut, plVar, plIx, sIns, ePopAt, eRev, oLst, oMove, oIf, oCall, oSt, oComp, iL, iT, iR1, iR2, gN, gT, gsNil, gsCons, cNil, cVal, cRef, free_0, free_succ, ends, outs, nils, resolve, putBack, allRef, refs, wipeE, pIsN, pNotN, pEq, pNe, eqOk_ii, eqOk_ss, eqOk_bb, eqOk_ni, eqOk_in, frS_frz, frS_own, frS_nil, List.replicate, List.getElem?_cons_zero, List.getElem?_cons_succ, List.set_cons_zero, List.set_cons_succ, List.cons_append, List.nil_append, List.length_cons, List.length_nil, List.take_succ_cons, List.take_zero, List.map_cons, List.map_nil, true_and, and_true, D.int.injEq, D.str.injEq, D.lst.injEq, decide_eq_true_eq, ite_true, ite_false, if_true, if_false, reduceIte, Bool.false_eq_true, false_and, and_false, Bool.not_true, Bool.not_false, Option.some.injEq, exists_eq_left', exists_eq_left, exists_and_left, List.nodup_cons, List.nodup_nil, List.not_mem_nil, not_false_eq_true, List.mem_cons, or_false, false_or, forall_eq, forall_eq_or_imp, Slot.own.injEq, Slot.par.injEq, Slot.frz.injEq, reduceCtorEq, exists_eq', exists_eq, exists_false, decide_true, decide_false, or_self, false_implies, implies_true, forall_const, eq_self, rd_lkL1, rd_lkL2, rd_lkL3, rd_lkE1, rd_lkE2, rd_thE1, rd_thE2, rd_lkF1, rd_lkX1, rd_lkX2, rd_lkX3, rd_mvS1, rd_mvS2, rd_mvE1, rd_mvE2, rd_lsO1, rd_lsO2, rd_tpO1, rd_sol1, rd_sol2, rd_sol3, rd_sol4, rd_sol5, rd_sol6, rd_sol7, rd_flat1, rd_flat2, rd_flat3, rd_flat4, rd_flat5, rd_asD1, rd_asD2, rd_asQ1, rd_asQ2, rd_asB, rd_asI, rd_p1, rd_p2, rd_pI0, rd_pI2, rd_pU, rd_pAdd1, rd_pAdd2, rd_pAdd3, rd_pAdd4, rd_pMul1, rd_pMul2, rd_pMul3, rd_pLen1, rd_pLen2, rd_pLen3, rd_pInt1, rd_pAbs, rd_pList1, rd_pList2, rd_pList3, rd_pCut1, rd_pCut2, rd_pCut3, rd_non1, rd_non2, rd_non3, rd_non4, rd_non5, rd_non6, rd_isStr, rd_pIx1, rd_pIx2, rd_pIx3, rd_pJoin1, rd_upS1, rd_upS2, rd_out1, rd_out2, rd_out3, rd_out4, rd_asL1, rd_asL2, rd_putL1, rd_putL2, rd_lkT1, rd_lkT2, rd_lkT3, rd_thT, rd_mvT1, rd_mvT2, rd_asDT, rd_asQT, rd_upT1, rd_upT2, rd_outT1, rd_outT2, rd_ref1, rd_ref2, rd_ref3, rd_ref4, rd_flat6, rd_flats0, rd_flats1, rd_er1, rd_er2, rd_er3, rd_er4, rd_ers0, rd_ers1, rd_ersL, rd_stA, rd_isi1, rd_isi2, rd_isi3, rd_isi4, rd_isX, rd_draw, rd_take, rd_pLt, rd_pLe, rd_pGt, rd_pGe, rd_pTuple1, rd_pTuple2, rd_pStr1, rd_pStr2, rd_pInt, rd_pIntS, rd_pIntB, rd_pOrd, rd_pMax, rd_pSplit, rd_pPart, rd_stO, rd_pCutS, rd_solB, rd_pIn1, rd_pNotIn1, rd_pIn2, rd_pIn3, rd_pNotIn2, rd_pNotIn3, rd_pBls, rd_pJoin2, rd_at0, rd_at1, rd_at2, rd_at3, rd_atL, rd_ixL, rd_pRepr, rd_pGt2, rd_pLt2, rd_pListU1, rd_pListU2, rd_pListU3, rd_pListU4, rd_pSindex, rd_pStarts, rd_f1, rd_pSort, rd_pSortD, rd_oF, rd_qF, rd_fCB, rd_cat, rd_rep, rd_rev, rd_isB, rd_notB, rd_ixA1, rd_ixA2, rd_ixA3, rd_ixA4, rd_ixA5, rd_treS1, rd_treS2, rd_setT1, rd_setT2, rd_slT1, rd_slT2, rd_slT3, rd_pListF]
      refine ⟨by omega, J_kc a b i, ⟨g, x4, rfl, fun i' j h1 h2 h3 => g1 i' j (by omega) h2 h3, fun j h1 h2 => ?_, g2, f4⟩, ?_⟩
      · have : j = b.length := by omega
        subst this
        rw [g2, l_end2 (by dsimp only; omega)]
      rintro k2 env ⟨g, x4, rfl, g1, g3, g2, f4⟩
      refine ⟨fun d hd => ?_, fun hj => ?_⟩
      · obtain ⟨hj', _⟩ := List.getElem?_eq_some_iff.mp hd
        rw [rngD, List.length_map, List.length_range] at hj'
        rw [rngD, rng_get hj'] at hd
        cases hd
        obtain ⟨j, hj⟩ : ∃ j : Nat, ((b.length : Int) - 1 - (k2 : Int)) = j := ⟨b.length - 1 - k2, by omega⟩
        rw [hj]
        have hjb : j < b.length := by omega
        have hkj : b.length - k2 = j + 1 := by omega
        have ga := Pu.atI_nat (List.getElem?_eq_getElem hia)
        have gb := Pu.atI_nat (List.getElem?_eq_getElem hjb)
        simp only [f4, tT_er, sSeq, sSet, sIf, sRet, sRetN, sNext, sBreak, sCont, sDrop, sNever, sAsg, sPar, sAug, sApp, sExt, sSetI, sForI, sWhile, sMid, sTry, sRaise, qVar, qC, qOp, qUn, qB, qAnd, qOr, qNot, qAndV, qOrV, qNotV, qIf, qNil, qCons, qCB, qTup, qLst, qCut, qPart, qNo, qM1, qM0, qCall, qChain, qXf, eQ, eVar, eC, eOp, eUn, eIf, eNil, eCons, eCB, eTup, eLst, eO, eCut, eM1, eM0, ePop, eIxV, eAnd, eOr, eNot, eAndV, eOrV, eNotV, eChain, eCutE, eNo, ePart, oSu, iS, tB', tQ, tYes', oE, oPlus, oRep, oTre, oNew, oCompT, iR3, sPut, plVar, plIx, sIns, ePopAt, eRev, oLst, oMove, oIf, oCall, oSt, oComp, iL, iT, iR1, iR2, gN, gT, gsNil, gsCons, cNil, cVal, cRef, free_0, free_succ, ends, outs, nils, resolve, putBack, allRef, refs, wipeE, pIsN, pNotN, pEq, pNe, eqOk_ii, eqOk_ss, eqOk_bb, eqOk_ni, eqOk_in, frS_frz, frS_own, frS_nil, List.replicate, List.getElem?_cons_zero, List.getElem?_cons_succ, List.set_cons_zero, List.set_cons_succ, List.cons_append, List.nil_append, List.length_cons, List.length_nil, List.take_succ_cons, List.take_zero, List.map_cons, List.map_nil, true_and, and_true, D.int.injEq, D.str.injEq, D.lst.injEq, decide_eq_true_eq, ite_true, ite_false, if_true, if_false, reduceIte, Bool.false_eq_true, false_and, and_false, Bool.not_true, Bool.not_false, Option.some.injEq, exists_eq_left', exists_eq_left, exists_and_left, List.nodup_cons, List.nodup_nil, List.not_mem_nil, not_false_eq_true, List.mem_cons, or_false, false_or, forall_eq, forall_eq_or_imp, Slot.own.injEq, Slot.par.injEq, Slot.frz.injEq, reduceCtorEq, exists_eq', exists_eq, exists_false, decide_true, decide_false, or_self, false_implies, implies_true, forall_const, eq_self, rd_lkL1, rd_lkL2, rd_lkL3, rd_lkE1, rd_lkE2, rd_thE1, rd_thE2, rd_lkF1, rd_lkX1, rd_lkX2, rd_lkX3, rd_mvS1, rd_mvS2, rd_mvE1, rd_mvE2, rd_lsO1, rd_lsO2, rd_tpO1, rd_sol1, rd_sol2, rd_sol3, rd_sol4, rd_sol5, rd_sol6, rd_sol7, rd_flat1, rd_flat2, rd_flat3, rd_flat4, rd_flat5, rd_asD1, rd_asD2, rd_asQ1, rd_asQ2, rd_asB, rd_asI, rd_p1, rd_p2, rd_pI0, rd_pI2, rd_pU, rd_pAdd1, rd_pAdd2, rd_pAdd3, rd_pAdd4, rd_pMul1, rd_pMul2, rd_pMul3, rd_pLen1, rd_pLen2, rd_pLen3, rd_pInt1, rd_pAbs, rd_pList1, rd_pList2, rd_pList3, rd_pCut1, rd_pCut2, rd_pCut3, rd_non1, rd_non2, rd_non3, rd_non4, rd_non5, rd_non6, rd_isStr, rd_pIx1, rd_pIx2, rd_pIx3, rd_pJoin1, rd_upS1, rd_upS2, rd_out1, rd_out2, rd_out3, rd_out4, rd_asL1, rd_asL2, rd_putL1, rd_putL2, rd_lkT1, rd_lkT2, rd_lkT3, rd_thT, rd_mvT1, rd_mvT2, rd_asDT, rd_asQT, rd_upT1, rd_upT2, rd_outT1, rd_outT2, rd_ref1, rd_ref2, rd_ref3, rd_ref4, rd_flat6, rd_flats0, rd_flats1, rd_er1, rd_er2, rd_er3, rd_er4, rd_ers0, rd_ers1, rd_ersL, rd_stA, rd_isi1, rd_isi2, rd_isi3, rd_isi4, rd_isX, rd_draw, rd_take, rd_pLt, rd_pLe, rd_pGt, rd_pGe, rd_pTuple1, rd_pTuple2, rd_pStr1, rd_pStr2, rd_pInt, rd_pIntS, rd_pIntB, rd_pOrd, rd_pMax, rd_pSplit, rd_pPart, rd_stO, rd_pCutS, rd_solB, rd_pIn1, rd_pNotIn1, rd_pIn2, rd_pIn3, rd_pNotIn2, rd_pNotIn3, rd_pBls, rd_pJoin2, rd_at0, rd_at1, rd_at2, rd_at3, rd_atL, rd_ixL, rd_pRepr, rd_pGt2, rd_pLt2, rd_pListU1, rd_pListU2, rd_pListU3, rd_pListU4, rd_pSindex, rd_pStarts, rd_f1, rd_pSort, rd_pSortD, rd_oF, rd_qF, rd_fCB, rd_cat, rd_rep, rd_rev, rd_isB, rd_notB, rd_ixA1, rd_ixA2, rd_ixA3, rd_ixA4, rd_ixA5, rd_treS1, rd_treS2, rd_setT1, rd_setT2, rd_slT1, rd_slT2, rd_slT3, rd_pListF]
        rw [show ((i : Int) + 1) = ((i + 1 : Nat) : Int) by omega, show ((j : Int) + 1) = ((j + 1 : Nat) : Int) by omega]
        simp only [ix_tab (g := g) (n := a.length) (m := b.length) (i := i + 1) (by omega), ix_tab (g := g) (n := a.length) (m := b.length) (i := i) (by omega), ix_row (g := g) (m := b.length) (j := j + 1) (by omega), ix_row (g := g) (m := b.length) (j := j) (by omega), sSeq, sSet, sIf, sRet, sRetN, sNext, sBreak, sCont, sDrop, sNever, sAsg, sPar, sAug, sApp, sExt, sSetI, sForI, sWhile, sMid, sTry, sRaise, qVar, qC, qOp, qUn, qB, qAnd, qOr, qNot, qAndV, qOrV, qNotV, qIf, qNil, qCons, qCB, qTup, qLst, qCut, qPart, qNo, qM1, qM0, qCall, qChain, qXf, eQ, eVar, eC, eOp, eUn, eIf, eNil, eCons, eCB, eTup, eLst, eO, eCut, eM1, eM0, ePop, eIxV, eAnd, eOr, eNot, eAndV, eOrV, eNotV, eChain, eCutE, eNo, ePart, oSu, iS, tB', tQ, tYes', oE, oPlus, oRep, oTre, oNew, oCompT, iR3, sPut, plVar, plIx, sIns, ePopAt, eRev, oLst, oMove, oIf, oCall, oSt, oComp, iL, iT, iR1, iR2, gN, gT, gsNil, gsCons, cNil, cVal, cRef, free_0, free_succ, ends, outs, nils, resolve, putBack, allRef, refs, wipeE, pIsN, pNotN, pEq, pNe, eqOk_ii, eqOk_ss, eqOk_bb, eqOk_ni, eqOk_in, frS_frz, frS_own, frS_nil, List.replicate, List.getElem?_cons_zero, List.getElem?_cons_succ, List.set_cons_zero, List.set_cons_succ, List.cons_append, List.nil_append, List.length_cons, List.length_nil, List.take_succ_cons, List.take_zero, List.map_cons, List.map_nil, true_and, and_true, D.int.injEq, D.str.injEq, D.lst.injEq, decide_eq_true_eq, ite_true, ite_false, if_true, if_false, reduceIte, Bool.false_eq_true, false_and, and_false, Bool.not_true, Bool.not_false, Option.some.injEq, exists_eq_left', exists_eq_left, exists_and_left, List.nodup_cons, List.nodup_nil, List.not_mem_nil, not_false_eq_true, List.mem_cons, or_false, false_or, forall_eq, forall_eq_or_imp, Slot.own.injEq, Slot.par.injEq, Slot.frz.injEq, reduceCtorEq, exists_eq', exists_eq, exists_false, decide_true, decide_false, or_self, false_implies, implies_true, forall_const, eq_self, rd_lkL1, rd_lkL2, rd_lkL3, rd_lkE1, rd_lkE2, rd_thE1, rd_thE2, rd_lkF1, rd_lkX1, rd_lkX2, rd_lkX3, rd_mvS1, rd_mvS2, rd_mvE1, rd_mvE2, rd_lsO1, rd_lsO2, rd_tpO1, rd_sol1, rd_sol2, rd_sol3, rd_sol4, rd_sol5, rd_sol6, rd_sol7, rd_flat1, rd_flat2, rd_flat3, rd_flat4, rd_flat5, rd_asD1, rd_asD2, rd_asQ1, rd_asQ2, rd_asB, rd_asI, rd_p1, rd_p2, rd_pI0, rd_pI2, rd_pU, rd_pAdd1, rd_pAdd2, rd_pAdd3, rd_pAdd4, rd_pMul1, rd_pMul2, rd_pMul3, rd_pLen1, rd_pLen2, rd_pLen3, rd_pInt1, rd_pAbs, rd_pList1, rd_pList2, rd_pList3, rd_pCut1, rd_pCut2, rd_pCut3, rd_non1, rd_non2, rd_non3, rd_non4, rd_non5, rd_non6, rd_isStr, rd_pIx1, rd_pIx2, rd_pIx3, rd_pJoin1, rd_upS1, rd_upS2, rd_out1, rd_out2, rd_out3, rd_out4, rd_asL1, rd_asL2, rd_putL1, rd_putL2, rd_lkT1, rd_lkT2, rd_lkT3, rd_thT, rd_mvT1, rd_mvT2, rd_asDT, rd_asQT, rd_upT1, rd_upT2, rd_outT1, rd_outT2, rd_ref1, rd_ref2, rd_ref3, rd_ref4, rd_flat6, rd_flats0, rd_flats1, rd_er1, rd_er2, rd_er3, rd_er4, rd_ers0, rd_ers1, rd_ersL, rd_stA, rd_isi1, rd_isi2, rd_isi3, rd_isi4, rd_isX, rd_draw, rd_take, rd_pLt, rd_pLe, rd_pGt, rd_pGe, rd_pTuple1, rd_pTuple2, rd_pStr1, rd_pStr2, rd_pInt, rd_pIntS, rd_pIntB, rd_pOrd, rd_pMax, rd_pSplit, rd_pPart, rd_stO, rd_pCutS, rd_solB, rd_pIn1, rd_pNotIn1, rd_pIn2, rd_pIn3, rd_pNotIn2, rd_pNotIn3, rd_pBls, rd_pJoin2, rd_at0, rd_at1, rd_at2, rd_at3, rd_atL, rd_ixL, rd_pRepr, rd_pGt2, rd_pLt2, rd_pListU1, rd_pListU2, rd_pListU3, rd_pListU4, rd_pSindex, rd_pStarts, rd_f1, rd_pSort, rd_pSortD, rd_oF, rd_qF, rd_fCB, rd_cat, rd_rep, rd_rev, rd_isB, rd_notB, rd_ixA1, rd_ixA2, rd_ixA3, rd_ixA4, rd_ixA5, rd_treS1, rd_treS2, rd_setT1, rd_setT2, rd_slT1, rd_slT2, rd_slT3, rd_pListF]
        have hka : kidN (tT g a.length b.length) (.int i) = some i := by
          rw [tT, kid_lst, List.length_map, List.length_range]
          unfold ixN
          rw [if_pos (by omega), if_pos (by omega)]
          simp
        have hkd : (tT g a.length b.length).kids[i]? = some (rowT g b.length i) := rng_get (by omega)
        have hpu : ∀ v : Nat, putN (rowT g b.length i) (.int j) (.leaf (.int v)) = some (.lst (((List.range (b.length + 1)).map fun j : Nat => T.leaf (.int (g i j))).set j (.leaf (.int v)))) := fun v => by
          rw [rowT]
          show (ixN _ _).map _ = _
          rw [List.length_map, List.length_range]
          unfold ixN
          rw [if_pos (by omega), if_pos (by omega)]
          simp
        have hs := l_step (w := ⟨a, b⟩) (i := i) (j := j) hia hjb
        dsimp only at hs
        rw [List.getElem?_eq_getElem hia, List.getElem?_eq_getElem hjb] at hs
        have v11 := g1 (i + 1) (j + 1) (by omega) (by omega) (by omega)
        have v10 := g1 (i + 1) j (by omega) (by omega) (by omega)
        have v01 := g3 (j + 1) (by omega) (by omega)
        have fin : ∀ v : Nat, v = Two.l ⟨a, b⟩ i j → J_kc a b i (k2 + 1) [.frz (.lst a), .frz (.lst b), .tre (tT (updG g i j v) a.length b.length), .frz (.int i), .frz (.int j), .nil] := fun v hv => by
          refine ⟨updG g i j v, _, rfl, fun i' j' h1 h2 h3 => ?_, fun j' h1 h2 => ?_, fun i' => ?_, rfl⟩
          · unfold updG
            rw [if_neg (by omega)]
            exact g1 i' j' h1 h2 h3
          · unfold updG
            by_cases e : j' = j
            · rw [if_pos ⟨rfl, e⟩, hv, e]
            · rw [if_neg (fun z => e z.2)]
              exact g3 j' (by omega) h2
          · unfold updG
            rw [if_neg (by omega)]
            exact g2 i'
        refine ⟨_, ga, _, gb, eqOk_it (hk.2.2.1 _ (List.getElem_mem hia)) (hk.2.2.2 _ (List.getElem_mem hjb)), ?_⟩
        split
        · rename_i he
          rw [if_pos (by rw [he])] at hs
          refine ⟨i, hka, _, hkd, _, by rw [show (((g (i + 1) (j + 1) : Nat) : Int) + 1) = ((g (i + 1) (j + 1) + 1 : Nat) : Int) by omega]; exact hpu _, ?_⟩
          rw [tT_put (by omega) (by omega)]
          exact fin _ (by omega)
        · rename_i he
          rw [if_neg (fun z => he (Option.some.inj z))] at hs
          refine ⟨i, hka, _, hkd, _, by rw [show (if ((g i (j + 1) : Nat) : Int) > ((g (i + 1) j : Nat) : Int) then ((g i (j + 1) : Nat) : Int) else ((g (i + 1) j : Nat) : Int)) = ((max (g (i + 1) j) (g i (j + 1)) : Nat) : Int) by split <;> omega]; exact hpu _, ?_⟩
          rw [tT_put (by omega) (by omega)]
          exact fin _ (by omega)
      · rw [rngD, List.length_map, List.length_range] at hj
        simp only [f4, sSeq, sSet, sIf, sRet, sRetN, sNext, sBreak, sCont, sDrop, sNever, sAsg, sPar, sAug, sApp, sExt, sSetI, sForI, sWhile, sMid, sTry, sRaise, qVar, qC, qOp, qUn, qB, qAnd, qOr, qNot, qAndV, qOrV, qNotV, qIf, qNil, qCons, qCB, qTup, qLst, qCut, qPart, qNo, qM1, qM0, qCall, qChain, qXf, eQ, eVar, eC, eOp, eUn, eIf, eNil, eCons, eCB, eTup, eLst, eO, eCut, eM1, eM0, ePop, eIxV, eAnd, eOr, eNot, eAndV, eOrV, eNotV, eChain, eCutE, eNo, ePart, oSu, iS, tB', tQ, tYes', oE, oPlus, oRep, oTre, oNew, oCompT, iR3, sPut, plVar, plIx, sIns, ePopAt, eRev, oLst, oMove, oIf, oCall, oSt, oComp, iL, iT, iR1, iR2, gN, gT, gsNil, gsCons, cNil, cVal, cRef, free_0, free_succ, ends, outs, nils, resolve, putBack, allRef, refs, wipeE, pIsN, pNotN, pEq, pNe, eqOk_ii, eqOk_ss, eqOk_bb, eqOk_ni, eqOk_in, frS_frz, frS_own, frS_nil, List.replicate, List.getElem?_cons_zero, List.getElem?_cons_succ, List.set_cons_zero, List.set_cons_succ, List.cons_append, List.nil_append, List.length_cons, List.length_nil, List.take_succ_cons, List.take_zero, List.map_cons, List.map_nil, true_and, and_true, D.int.injEq, D.str.injEq, D.lst.injEq, decide_eq_true_eq, ite_true, ite_false, if_true, if_false, reduceIte, Bool.false_eq_true, false_and, and_false, Bool.not_true, Bool.not_false, Option.some.injEq, exists_eq_left', exists_eq_left, exists_and_left, List.nodup_cons, List.nodup_nil, List.not_mem_nil, not_false_eq_true, List.mem_cons, or_false, false_or, forall_eq, forall_eq_or_imp, Slot.own.injEq, Slot.par.injEq, Slot.frz.injEq, reduceCtorEq, exists_eq', exists_eq, exists_false, decide_true, decide_false, or_self, false_implies, implies_true, forall_const, eq_self, rd_lkL1, rd_lkL2, rd_lkL3, rd_lkE1, rd_lkE2, rd_thE1, rd_thE2, rd_lkF1, rd_lkX1, rd_lkX2, rd_lkX3, rd_mvS1, rd_mvS2, rd_mvE1, rd_mvE2, rd_lsO1, rd_lsO2, rd_tpO1, rd_sol1, rd_sol2, rd_sol3, rd_sol4, rd_sol5, rd_sol6, rd_sol7, rd_flat1, rd_flat2, rd_flat3, rd_flat4, rd_flat5, rd_asD1, rd_asD2, rd_asQ1, rd_asQ2, rd_asB, rd_asI, rd_p1, rd_p2, rd_pI0, rd_pI2, rd_pU, rd_pAdd1, rd_pAdd2, rd_pAdd3, rd_pAdd4, rd_pMul1, rd_pMul2, rd_pMul3, rd_pLen1, rd_pLen2, rd_pLen3, rd_pInt1, rd_pAbs, rd_pList1, rd_pList2, rd_pList3, rd_pCut1, rd_pCut2, rd_pCut3, rd_non1, rd_non2, rd_non3, rd_non4, rd_non5, rd_non6, rd_isStr, rd_pIx1, rd_pIx2, rd_pIx3, rd_pJoin1, rd_upS1, rd_upS2, rd_out1, rd_out2, rd_out3, rd_out4, rd_asL1, rd_asL2, rd_putL1, rd_putL2, rd_lkT1, rd_lkT2, rd_lkT3, rd_thT, rd_mvT1, rd_mvT2, rd_asDT, rd_asQT, rd_upT1, rd_upT2, rd_outT1, rd_outT2, rd_ref1, rd_ref2, rd_ref3, rd_ref4, rd_flat6, rd_flats0, rd_flats1, rd_er1, rd_er2, rd_er3, rd_er4, rd_ers0, rd_ers1, rd_ersL, rd_stA, rd_isi1, rd_isi2, rd_isi3, rd_isi4, rd_isX, rd_draw, rd_take, rd_pLt, rd_pLe, rd_pGt, rd_pGe, rd_pTuple1, rd_pTuple2, rd_pStr1, rd_pStr2, rd_pInt, rd_pIntS, rd_pIntB, rd_pOrd, rd_pMax, rd_pSplit, rd_pPart, rd_stO, rd_pCutS, rd_solB, rd_pIn1, rd_pNotIn1, rd_pIn2, rd_pIn3, rd_pNotIn2, rd_pNotIn3, rd_pBls, rd_pJoin2, rd_at0, rd_at1, rd_at2, rd_at3, rd_atL, rd_ixL, rd_pRepr, rd_pGt2, rd_pLt2, rd_pListU1, rd_pListU2, rd_pListU3, rd_pListU4, rd_pSindex, rd_pStarts, rd_f1, rd_pSort, rd_pSortD, rd_oF, rd_qF, rd_fCB, rd_cat, rd_rep, rd_rev, rd_isB, rd_notB, rd_ixA1, rd_ixA2, rd_ixA3, rd_ixA4, rd_ixA5, rd_treS1, rd_treS2, rd_setT1, rd_setT2, rd_slT1, rd_slT2, rd_slT3, rd_pListF]
        refine ⟨g, _, _, rfl, fun i' j h1 h2 h3 => ?_, g2, rfl, f4⟩
        by_cases e : i' = i
        · subst e; exact g3 j (by omega) h3
        · exact g1 i' j (by omega) h2 h3
    · rw [rngD, List.length_map, List.length_range] at hi
      simp only [f3, f4, sSeq, sSet, sIf, sRet, sRetN, sNext, sBreak, sCont, sDrop, sNever, sAsg, sPar, sAug, sApp, sExt, sSetI, sForI, sWhile, sMid, sTry, sRaise, qVar, qC, qOp, qUn, qB, qAnd, qOr, qNot, qAndV, qOrV, qNotV, qIf, qNil, qCons, qCB, qTup, qLst, qCut, qPart, qNo, qM1, qM0, qCall, qChain, qXf, eQ, eVar, eC, eOp, eUn, eIf, eNil, eCons, eCB, eTup, eLst, eO, eCut, eM1, eM0, ePop, eIxV, eAnd, eOr, eNot, eAndV, eOrV, eNotV, eChain, eCutE, eNo, ePart, oSu, iS, tB', tQ, tYes', oE, oPlus, oRep, oTre, oNew, oCompT, iR3, sPut, plVar, plIx, sIns, ePopAt, eRev, oLst, oMove, oIf, oCall, oSt, oComp, iL, iT, iR1, iR2, gN, gT, gsNil, gsCons, cNil, cVal, cRef, free_0, free_succ, ends, outs, nils, resolve, putBack, allRef, refs, wipeE, pIsN, pNotN, pEq, pNe, eqOk_ii, eqOk_ss, eqOk_bb, eqOk_ni, eqOk_in, frS_frz, frS_own, frS_nil, List.replicate, List.getElem?_cons_zero, List.getElem?_cons_succ, List.set_cons_zero, List.set_cons_succ, List.cons_append, List.nil_append, List.length_cons, List.length_nil, List.take_succ_cons, List.take_zero, List.map_cons, List.map_nil, true_and, and_true, D.int.injEq, D.str.injEq, D.lst.injEq, decide_eq_true_eq, ite_true, ite_false, if_true, if_false, reduceIte, Bool.false_eq_true, false_and, and_false, Bool.not_true, Bool.not_false, Option.some.injEq, exists_eq_left', exists_eq_left, exists_and_left, List.nodup_cons, List.nodup_nil, List.not_mem_nil, not_false_eq_true, List.mem_cons, or_false, false_or, forall_eq, forall_eq_or_imp, Slot.own.injEq, Slot.par.injEq, Slot.frz.injEq, reduceCtorEq, exists_eq', exists_eq, exists_false, decide_true, decide_false, or_self, false_implies, implies_true, forall_const, eq_self, rd_lkL1, rd_lkL2, rd_lkL3, rd_lkE1, rd_lkE2, rd_thE1, rd_thE2, rd_lkF1, rd_lkX1, rd_lkX2, rd_lkX3, rd_mvS1, rd_mvS2, rd_mvE1, rd_mvE2, rd_lsO1, rd_lsO2, rd_tpO1, rd_sol1, rd_sol2, rd_sol3, rd_sol4, rd_sol5, rd_sol6, rd_sol7, rd_flat1, rd_flat2, rd_flat3, rd_flat4, rd_flat5, rd_asD1, rd_asD2, rd_asQ1, rd_asQ2, rd_asB, rd_asI, rd_p1, rd_p2, rd_pI0, rd_pI2, rd_pU, rd_pAdd1, rd_pAdd2, rd_pAdd3, rd_pAdd4, rd_pMul1, rd_pMul2, rd_pMul3, rd_pLen1, rd_pLen2, rd_pLen3, rd_pInt1, rd_pAbs, rd_pList1, rd_pList2, rd_pList3, rd_pCut1, rd_pCut2, rd_pCut3, rd_non1, rd_non2, rd_non3, rd_non4, rd_non5, rd_non6, rd_isStr, rd_pIx1, rd_pIx2, rd_pIx3, rd_pJoin1, rd_upS1, rd_upS2, rd_out1, rd_out2, rd_out3, rd_out4, rd_asL1, rd_asL2, rd_putL1, rd_putL2, rd_lkT1, rd_lkT2, rd_lkT3, rd_thT, rd_mvT1, rd_mvT2, rd_asDT, rd_asQT, rd_upT1, rd_upT2, rd_outT1, rd_outT2, rd_ref1, rd_ref2, rd_ref3, rd_ref4, rd_flat6, rd_flats0, rd_flats1, rd_er1, rd_er2, rd_er3, rd_er4, rd_ers0, rd_ers1, rd_ersL, rd_stA, rd_isi1, rd_isi2, rd_isi3, rd_isi4, rd_isX, rd_draw, rd_take, rd_pLt, rd_pLe, rd_pGt, rd_pGe, rd_pTuple1, rd_pTuple2, rd_pStr1, rd_pStr2, rd_pInt, rd_pIntS, rd_pIntB, rd_pOrd, rd_pMax, rd_pSplit, rd_pPart, rd_stO, rd_pCutS, rd_solB, rd_pIn1, rd_pNotIn1, rd_pIn2, rd_pIn3, rd_pNotIn2, rd_pNotIn3, rd_pBls, rd_pJoin2, rd_at0, rd_at1, rd_at2, rd_at3, rd_atL, rd_ixL, rd_pRepr, rd_pGt2, rd_pLt2, rd_pListU1, rd_pListU2, rd_pListU3, rd_pListU4, rd_pSindex, rd_pStarts, rd_f1, rd_pSort, rd_pSortD, rd_oF, rd_qF, rd_fCB, rd_cat, rd_rep, rd_rev, rd_isB, rd_notB, rd_ixA1, rd_ixA2, rd_ixA3, rd_ixA4, rd_ixA5, rd_treS1, rd_treS2, rd_setT1, rd_setT2, rd_slT1, rd_slT2, rd_slT3, rd_pListF]
      refine h _ ?_
      rw [tT_er]
      unfold tabG tabD
      congr 1
      apply List.map_congr_left
      intro i hi'
      unfold rowG rowD
      congr 1
      apply List.map_congr_left
      intro j hj'
      have h1 := List.mem_range.mp hi'
      have h2 := List.mem_range.mp hj'
      rw [g1 i j (by omega) (by omega) (by omega)]
/-! ### the steps -/
theorem steps_end {w : Two} : ∀ (f : Nat) {i j : Nat}, w.a.length ≤ i → w.b.length ≤ j → w.steps f i j = []
  | 0, _, _, _, _ => rfl
  | f + 1, i, j, h1, h2 => by
    rw [Two.steps, if_neg (by omega), if_neg (by omega), if_neg (by omega)]
def I_sb (a b : List D) (t : D) (m : Nat) (env : Pu.Env) : Prop := ∃ (i j f : Nat) (acc : List St), env = [.frz (.lst a), .frz (.lst b), .frz t, .own (stD acc), .frz (.int i), .frz (.int j)] ∧ i ≤ a.length ∧ j ≤ b.length ∧ m = a.length - i + (b.length - j) ∧ m ≤ f ∧ Two.due ⟨a, b⟩ = acc ++ Two.steps ⟨a, b⟩ f i j ∧ acc.length + m ≤ 200
theorem tab_eq {w : Two} : tabD w = tabG w.l w.a.length w.b.length := rfl
theorem pp_steps_between : ∀ as Q X, ps_steps_between as Q X → p_steps_between (ends 2 Q) (as ++ nils (6 - as.length)) := by
  rintro as Q X ⟨⟨a, b⟩, rfl, hk, h⟩
  dsimp only at hk h
  have e2 := big
  have la := hk.1
  have lb := hk.2.1
  dsimp only at la lb
  simp only [p_steps_between, c_counts, sSeq, sSet, sIf, sRet, sRetN, sNext, sBreak, sCont, sDrop, sNever, sAsg, sPar, sAug, sApp, sExt, sSetI, sForI, sWhile, sMid, sTry, sRaise, qVar, qC, qOp, qUn, qB, qAnd, qOr, qNot, qAndV, qOrV, qNotV, qIf, qNil, qCons, qCB, qTup, qLst, qCut, qPart, qNo, qM1, qM0, qCall, qChain, qXf, eQ, eVar, eC, eOp, eUn, eIf, eNil, eCons, eCB, eTup, eLst, eO, eCut, eM1, eM0, ePop, eIxV, eAnd, eOr, eNot, eAndV, eOrV, eNotV, eChain, eCutE, eNo, ePart, oSu, iS, tB', tQ, tYes', oE, oPlus, oRep, oTre, oNew, oCompT, iR3, sPut, plVar, plIx, sIns, ePopAt, eRev, oLst, oMove, oIf, oCall, oSt, oComp, iL, iT, iR1, iR2, gN, gT, gsNil, gsCons, cNil, cVal, cRef, free_0, free_succ, ends, outs, nils, resolve, putBack, allRef, refs, wipeE, pIsN, pNotN, pEq, pNe, eqOk_ii, eqOk_ss, eqOk_bb, eqOk_ni, eqOk_in, frS_frz, frS_own, frS_nil, List.replicate, List.getElem?_cons_zero, List.getElem?_cons_succ, List.set_cons_zero, List.set_cons_succ, List.cons_append, List.nil_append, List.length_cons, List.length_nil, List.take_succ_cons, List.take_zero, List.map_cons, List.map_nil, true_and, and_true, D.int.injEq, D.str.injEq, D.lst.injEq, decide_eq_true_eq, ite_true, ite_false, if_true, if_false, reduceIte, Bool.false_eq_true, false_and, and_false, Bool.not_true, Bool.not_false, Option.some.injEq, exists_eq_left', exists_eq_left, exists_and_left, List.nodup_cons, List.nodup_nil, List.not_mem_nil, not_false_eq_true, List.mem_cons, or_false, false_or, forall_eq, forall_eq_or_imp, Slot.own.injEq, Slot.par.injEq, Slot.frz.injEq, reduceCtorEq, exists_eq', exists_eq, exists_false, decide_true, decide_false, or_self, false_implies, implies_true, forall_const, eq_self, rd_lkL1, rd_lkL2, rd_lkL3, rd_lkE1, rd_lkE2, rd_thE1, rd_thE2, rd_lkF1, rd_lkX1, rd_lkX2, rd_lkX3, rd_mvS1, rd_mvS2, rd_mvE1, rd_mvE2, rd_lsO1, rd_lsO2, rd_tpO1, rd_sol1, rd_sol2, rd_sol3, rd_sol4, rd_sol5, rd_sol6, rd_sol7, rd_flat1, rd_flat2, rd_flat3, rd_flat4, rd_flat5, rd_asD1, rd_asD2, rd_asQ1, rd_asQ2, rd_asB, rd_asI, rd_p1, rd_p2, rd_pI0, rd_pI2, rd_pU, rd_pAdd1, rd_pAdd2, rd_pAdd3, rd_pAdd4, rd_pMul1, rd_pMul2, rd_pMul3, rd_pLen1, rd_pLen2, rd_pLen3, rd_pInt1, rd_pAbs, rd_pList1, rd_pList2, rd_pList3, rd_pCut1, rd_pCut2, rd_pCut3, rd_non1, rd_non2, rd_non3, rd_non4, rd_non5, rd_non6, rd_isStr, rd_pIx1, rd_pIx2, rd_pIx3, rd_pJoin1, rd_upS1, rd_upS2, rd_out1, rd_out2, rd_out3, rd_out4, rd_asL1, rd_asL2, rd_putL1, rd_putL2, rd_lkT1, rd_lkT2, rd_lkT3, rd_thT, rd_mvT1, rd_mvT2, rd_asDT, rd_asQT, rd_upT1, rd_upT2, rd_outT1, rd_outT2, rd_ref1, rd_ref2, rd_ref3, rd_ref4, rd_flat6, rd_flats0, rd_flats1, rd_er1, rd_er2, rd_er3, rd_er4, rd_ers0, rd_ers1, rd_ersL, rd_stA, rd_isi1, rd_isi2, rd_isi3, rd_isi4, rd_isX, rd_draw, rd_take, rd_pLt, rd_pLe, rd_pGt, rd_pGe, rd_pTuple1, rd_pTuple2, rd_pStr1, rd_pStr2, rd_pInt, rd_pIntS, rd_pIntB, rd_pOrd, rd_pMax, rd_pSplit, rd_pPart, rd_stO, rd_pCutS, rd_solB, rd_pIn1, rd_pNotIn1, rd_pIn2, rd_pIn3, rd_pNotIn2, rd_pNotIn3, rd_pBls, rd_pJoin2, rd_at0, rd_at1, rd_at2, rd_at3, rd_atL, rd_ixL, rd_pRepr, rd_pGt2, rd_pLt2, rd_pListU1, rd_pListU2, rd_pListU3, rd_pListU4, rd_pSindex, rd_pStarts, rd_f1, rd_pSort, rd_pSortD, rd_oF, rd_qF, rd_fCB, rd_cat, rd_rep, rd_rev, rd_isB, rd_notB, rd_ixA1, rd_ixA2, rd_ixA3, rd_ixA4, rd_ixA5, rd_treS1, rd_treS2, rd_setT1, rd_setT2, rd_slT1, rd_slT2, rd_slT3, rd_pListF]
  refine ⟨hk, fun t ht => ?_⟩
  rw [ht]
  refine ⟨by omega, I_sb a b (tabD ⟨a, b⟩), ⟨_, 0, 0, a.length + b.length, [], rfl, by omega, by omega, rfl, by omega, rfl, by simp; omega⟩, ?_⟩
  rintro m env ⟨i, j, f, acc, rfl, hi, hj, hm, hf, hd, hl⟩
  simp only [sSeq, sSet, sIf, sRet, sRetN, sNext, sBreak, sCont, sDrop, sNever, sAsg, sPar, sAug, sApp, sExt, sSetI, sForI, sWhile, sMid, sTry, sRaise, qVar, qC, qOp, qUn, qB, qAnd, qOr, qNot, qAndV, qOrV, qNotV, qIf, qNil, qCons, qCB, qTup, qLst, qCut, qPart, qNo, qM1, qM0, qCall, qChain, qXf, eQ, eVar, eC, eOp, eUn, eIf, eNil, eCons, eCB, eTup, eLst, eO, eCut, eM1, eM0, ePop, eIxV, eAnd, eOr, eNot, eAndV, eOrV, eNotV, eChain, eCutE, eNo, ePart, oSu, iS, tB', tQ, tYes', oE, oPlus, oRep, oTre, oNew, oCompT, iR3, sPut, plVar, plIx, sIns, ePopAt, eRev, oLst, oMove, oIf, oCall, oSt, oComp, iL, iT, iR1, iR2, gN, gT, gsNil, gsCons, cNil, cVal, cRef, free_0, free_succ, ends, outs, nils, resolve, putBack, allRef, refs, wipeE, pIsN, pNotN, pEq, pNe, eqOk_ii, eqOk_ss, eqOk_bb, eqOk_ni, eqOk_in, frS_frz, frS_own, frS_nil, List.replicate, List.getElem?_cons_zero, List.getElem?_cons_succ, List.set_cons_zero, List.set_cons_succ, List.cons_append, List.nil_append, List.length_cons, List.length_nil, List.take_succ_cons, List.take_zero, List.map_cons, List.map_nil, true_and, and_true, D.int.injEq, D.str.injEq, D.lst.injEq, decide_eq_true_eq, ite_true, ite_false, if_true, if_false, reduceIte, Bool.false_eq_true, false_and, and_false, Bool.not_true, Bool.not_false, Option.some.injEq, exists_eq_left', exists_eq_left, exists_and_left, List.nodup_cons, List.nodup_nil, List.not_mem_nil, not_false_eq_true, List.mem_cons, or_false, false_or, forall_eq, forall_eq_or_imp, Slot.own.injEq, Slot.par.injEq, Slot.frz.injEq, reduceCtorEq, exists_eq', exists_eq, exists_false, decide_true, decide_false, or_self, false_implies, implies_true, forall_const, eq_self, rd_lkL1, rd_lkL2, rd_lkL3, rd_lkE1, rd_lkE2, rd_thE1, rd_thE2, rd_lkF1, rd_lkX1, rd_lkX2, rd_lkX3, rd_mvS1, rd_mvS2, rd_mvE1, rd_mvE2, rd_lsO1, rd_lsO2, rd_tpO1, rd_sol1, rd_sol2, rd_sol3, rd_sol4, rd_sol5, rd_sol6, rd_sol7, rd_flat1, rd_flat2, rd_flat3, rd_flat4, rd_flat5, rd_asD1, rd_asD2, rd_asQ1, rd_asQ2, rd_asB, rd_asI, rd_p1, rd_p2, rd_pI0, rd_pI2, rd_pU, rd_pAdd1, rd_pAdd2, rd_pAdd3, rd_pAdd4, rd_pMul1, rd_pMul2, rd_pMul3, rd_pLen1, rd_pLen2, rd_pLen3, rd_pInt1, rd_pAbs, rd_pList1, rd_pList2, rd_pList3, rd_pCut1, rd_pCut2, rd_pCut3, rd_non1, rd_non2, rd_non3, rd_non4, rd_non5, rd_non6, rd_isStr, rd_pIx1, rd_pIx2, rd_pIx3, rd_pJoin1, rd_upS1, rd_upS2, rd_out1, rd_out2, rd_out3, rd_out4, rd_asL1, rd_asL2, rd_putL1, rd_putL2, rd_lkT1, rd_lkT2, rd_lkT3, rd_thT, rd_mvT1, rd_mvT2, rd_asDT, rd_asQT, rd_upT1, rd_upT2, rd_outT1, rd_outT2, rd_ref1, rd_ref2, rd_ref3, rd_ref4, rd_flat6, rd_flats0, rd_flats1, rd_er1, rd_er2, rd_er3, rd_er4, rd_ers0, rd_ers1, rd_ersL, rd_stA, rd_isi1, rd_isi2, rd_isi3, rd_isi4, rd_isX, rd_draw, rd_take, rd_pLt, rd_pLe, rd_pGt, rd_pGe, rd_pTuple1, rd_pTuple2, rd_pStr1, rd_pStr2, rd_pInt, rd_pIntS, rd_pIntB, rd_pOrd, rd_pMax, rd_pSplit, rd_pPart, rd_stO, rd_pCutS, rd_solB, rd_pIn1, rd_pNotIn1, rd_pIn2, rd_pIn3, rd_pNotIn2, rd_pNotIn3, rd_pBls, rd_pJoin2, rd_at0, rd_at1, rd_at2, rd_at3, rd_atL, rd_ixL, rd_pRepr, rd_pGt2, rd_pLt2, rd_pListU1, rd_pListU2, rd_pListU3, rd_pListU4, rd_pSindex, rd_pStarts, rd_f1, rd_pSort, rd_pSortD, rd_oF, rd_qF, rd_fCB, rd_cat, rd_rep, rd_rev, rd_isB, rd_notB, rd_ixA1, rd_ixA2, rd_ixA3, rd_ixA4, rd_ixA5, rd_treS1, rd_treS2, rd_setT1, rd_setT2, rd_slT1, rd_slT2, rd_slT3, rd_pListF]
  by_cases h0 : m = 0
  · rw [if_neg (by omega), if_neg (by omega)]
    rw [steps_end f (by dsimp only; omega) (by dsimp only; omega), List.append_nil] at hd
    rw [hd] at h
    exact h
  obtain ⟨f', rfl⟩ : ∃ f', f = f' + 1 := ⟨f - 1, by omega⟩
  rw [Two.steps] at hd
  dsimp only at hd
  simp only [tab_eq, stD, List.length_map, sSeq, sSet, sIf, sRet, sRetN, sNext, sBreak, sCont, sDrop, sNever, sAsg, sPar, sAug, sApp, sExt, sSetI, sForI, sWhile, sMid, sTry, sRaise, qVar, qC, qOp, qUn, qB, qAnd, qOr, qNot, qAndV, qOrV, qNotV, qIf, qNil, qCons, qCB, qTup, qLst, qCut, qPart, qNo, qM1, qM0, qCall, qChain, qXf, eQ, eVar, eC, eOp, eUn, eIf, eNil, eCons, eCB, eTup, eLst, eO, eCut, eM1, eM0, ePop, eIxV, eAnd, eOr, eNot, eAndV, eOrV, eNotV, eChain, eCutE, eNo, ePart, oSu, iS, tB', tQ, tYes', oE, oPlus, oRep, oTre, oNew, oCompT, iR3, sPut, plVar, plIx, sIns, ePopAt, eRev, oLst, oMove, oIf, oCall, oSt, oComp, iL, iT, iR1, iR2, gN, gT, gsNil, gsCons, cNil, cVal, cRef, free_0, free_succ, ends, outs, nils, resolve, putBack, allRef, refs, wipeE, pIsN, pNotN, pEq, pNe, eqOk_ii, eqOk_ss, eqOk_bb, eqOk_ni, eqOk_in, frS_frz, frS_own, frS_nil, List.replicate, List.getElem?_cons_zero, List.getElem?_cons_succ, List.set_cons_zero, List.set_cons_succ, List.cons_append, List.nil_append, List.length_cons, List.length_nil, List.take_succ_cons, List.take_zero, List.map_cons, List.map_nil, true_and, and_true, D.int.injEq, D.str.injEq, D.lst.injEq, decide_eq_true_eq, ite_true, ite_false, if_true, if_false, reduceIte, Bool.false_eq_true, false_and, and_false, Bool.not_true, Bool.not_false, Option.some.injEq, exists_eq_left', exists_eq_left, exists_and_left, List.nodup_cons, List.nodup_nil, List.not_mem_nil, not_false_eq_true, List.mem_cons, or_false, false_or, forall_eq, forall_eq_or_imp, Slot.own.injEq, Slot.par.injEq, Slot.frz.injEq, reduceCtorEq, exists_eq', exists_eq, exists_false, decide_true, decide_false, or_self, false_implies, implies_true, forall_const, eq_self, rd_lkL1, rd_lkL2, rd_lkL3, rd_lkE1, rd_lkE2, rd_thE1, rd_thE2, rd_lkF1, rd_lkX1, rd_lkX2, rd_lkX3, rd_mvS1, rd_mvS2, rd_mvE1, rd_mvE2, rd_lsO1, rd_lsO2, rd_tpO1, rd_sol1, rd_sol2, rd_sol3, rd_sol4, rd_sol5, rd_sol6, rd_sol7, rd_flat1, rd_flat2, rd_flat3, rd_flat4, rd_flat5, rd_asD1, rd_asD2, rd_asQ1, rd_asQ2, rd_asB, rd_asI, rd_p1, rd_p2, rd_pI0, rd_pI2, rd_pU, rd_pAdd1, rd_pAdd2, rd_pAdd3, rd_pAdd4, rd_pMul1, rd_pMul2, rd_pMul3, rd_pLen1, rd_pLen2, rd_pLen3, rd_pInt1, rd_pAbs, rd_pList1, rd_pList2, rd_pList3, rd_pCut1, rd_pCut2, rd_pCut3, rd_non1, rd_non2, rd_non3, rd_non4, rd_non5, rd_non6, rd_isStr, rd_pIx1, rd_pIx2, rd_pIx3, rd_pJoin1, rd_upS1, rd_upS2, rd_out1, rd_out2, rd_out3, rd_out4, rd_asL1, rd_asL2, rd_putL1, rd_putL2, rd_lkT1, rd_lkT2, rd_lkT3, rd_thT, rd_mvT1, rd_mvT2, rd_asDT, rd_asQT, rd_upT1, rd_upT2, rd_outT1, rd_outT2, rd_ref1, rd_ref2, rd_ref3, rd_ref4, rd_flat6, rd_flats0, rd_flats1, rd_er1, rd_er2, rd_er3, rd_er4, rd_ers0, rd_ers1, rd_ersL, rd_stA, rd_isi1, rd_isi2, rd_isi3, rd_isi4, rd_isX, rd_draw, rd_take, rd_pLt, rd_pLe, rd_pGt, rd_pGe, rd_pTuple1, rd_pTuple2, rd_pStr1, rd_pStr2, rd_pInt, rd_pIntS, rd_pIntB, rd_pOrd, rd_pMax, rd_pSplit, rd_pPart, rd_stO, rd_pCutS, rd_solB, rd_pIn1, rd_pNotIn1, rd_pIn2, rd_pIn3, rd_pNotIn2, rd_pNotIn3, rd_pBls, rd_pJoin2, rd_at0, rd_at1, rd_at2, rd_at3, rd_atL, rd_ixL, rd_pRepr, rd_pGt2, rd_pLt2, rd_pListU1, rd_pListU2, rd_pListU3, rd_pListU4, rd_pSindex, rd_pStarts, rd_f1, rd_pSort, rd_pSortD, rd_oF, rd_qF, rd_fCB, rd_cat, rd_rep, rd_rev, rd_isB, rd_notB, rd_ixA1, rd_ixA2, rd_ixA3, rd_ixA4, rd_ixA5, rd_treS1, rd_treS2, rd_setT1, rd_setT2, rd_slT1, rd_slT2, rd_slT3, rd_pListF]
  have e1 : ((i : Int) + 1) = ((i + 1 : Nat) : Int) := by omega
  have e3 : ((j : Int) + 1) = ((j + 1 : Nat) : Int) := by omega
  rw [e1, e3]
  have nxt : ∀ (s : St) (i' j' : Nat), i' ≤ a.length → j' ≤ b.length → a.length - i' + (b.length - j') < m → Two.due ⟨a, b⟩ = acc ++ (s :: Two.steps ⟨a, b⟩ f' i' j') →
      acc.length < sizeLine ∧ ∃ m', m' < m ∧ I_sb a b (tabG (Two.l ⟨a, b⟩) a.length b.length) m' [.frz (.lst a), .frz (.lst b), .frz (tabG (Two.l ⟨a, b⟩) a.length b.length), .own (.lst (acc.map St.d ++ [s.d])), .frz (.int i'), .frz (.int j')] := fun s i' j' h1 h2 h3 h4 =>
    ⟨by omega, _, h3, i', j', f', acc ++ [s], by simp [stD], h1, h2, rfl, by omega, by rw [h4]; simp, by simp; omega⟩
  by_cases hia : i < a.length
  · have ga := Pu.atI_nat (List.getElem?_eq_getElem hia)
    rw [if_pos (by omega)]
    simp only [ix_tab (g := Two.l ⟨a, b⟩) (n := a.length) (m := b.length) (i := i + 1) (by omega), ix_tab (g := Two.l ⟨a, b⟩) (n := a.length) (m := b.length) (i := i) (by omega), ix_row (g := Two.l ⟨a, b⟩) (m := b.length) (j := j) (by omega), sSeq, sSet, sIf, sRet, sRetN, sNext, sBreak, sCont, sDrop, sNever, sAsg, sPar, sAug, sApp, sExt, sSetI, sForI, sWhile, sMid, sTry, sRaise, qVar, qC, qOp, qUn, qB, qAnd, qOr, qNot, qAndV, qOrV, qNotV, qIf, qNil, qCons, qCB, qTup, qLst, qCut, qPart, qNo, qM1, qM0, qCall, qChain, qXf, eQ, eVar, eC, eOp, eUn, eIf, eNil, eCons, eCB, eTup, eLst, eO, eCut, eM1, eM0, ePop, eIxV, eAnd, eOr, eNot, eAndV, eOrV, eNotV, eChain, eCutE, eNo, ePart, oSu, iS, tB', tQ, tYes', oE, oPlus, oRep, oTre, oNew, oCompT, iR3, sPut, plVar, plIx, sIns, ePopAt, eRev, oLst, oMove, oIf, oCall, oSt, oComp, iL, iT, iR1, iR2, gN, gT, gsNil, gsCons, cNil, cVal, cRef, free_0, free_succ, ends, outs, nils, resolve, putBack, allRef, refs, wipeE, pIsN, pNotN, pEq, pNe, eqOk_ii, eqOk_ss, eqOk_bb, eqOk_ni, eqOk_in, frS_frz, frS_own, frS_nil, List.replicate, List.getElem?_cons_zero, List.getElem?_cons_succ, List.set_cons_zero, List.set_cons_succ, List.cons_append, List.nil_append, List.length_cons, List.length_nil, List.take_succ_cons, List.take_zero, List.map_cons, List.map_nil, true_and, and_true, D.int.injEq, D.str.injEq, D.lst.injEq, decide_eq_true_eq, ite_true, ite_false, if_true, if_false, reduceIte, Bool.false_eq_true, false_and, and_false, Bool.not_true, Bool.not_false, Option.some.injEq, exists_eq_left', exists_eq_left, exists_and_left, List.nodup_cons, List.nodup_nil, List.not_mem_nil, not_false_eq_true, List.mem_cons, or_false, false_or, forall_eq, forall_eq_or_imp, Slot.own.injEq, Slot.par.injEq, Slot.frz.injEq, reduceCtorEq, exists_eq', exists_eq, exists_false, decide_true, decide_false, or_self, false_implies, implies_true, forall_const, eq_self, rd_lkL1, rd_lkL2, rd_lkL3, rd_lkE1, rd_lkE2, rd_thE1, rd_thE2, rd_lkF1, rd_lkX1, rd_lkX2, rd_lkX3, rd_mvS1, rd_mvS2, rd_mvE1, rd_mvE2, rd_lsO1, rd_lsO2, rd_tpO1, rd_sol1, rd_sol2, rd_sol3, rd_sol4, rd_sol5, rd_sol6, rd_sol7, rd_flat1, rd_flat2, rd_flat3, rd_flat4, rd_flat5, rd_asD1, rd_asD2, rd_asQ1, rd_asQ2, rd_asB, rd_asI, rd_p1, rd_p2, rd_pI0, rd_pI2, rd_pU, rd_pAdd1, rd_pAdd2, rd_pAdd3, rd_pAdd4, rd_pMul1, rd_pMul2, rd_pMul3, rd_pLen1, rd_pLen2, rd_pLen3, rd_pInt1, rd_pAbs, rd_pList1, rd_pList2, rd_pList3, rd_pCut1, rd_pCut2, rd_pCut3, rd_non1, rd_non2, rd_non3, rd_non4, rd_non5, rd_non6, rd_isStr, rd_pIx1, rd_pIx2, rd_pIx3, rd_pJoin1, rd_upS1, rd_upS2, rd_out1, rd_out2, rd_out3, rd_out4, rd_asL1, rd_asL2, rd_putL1, rd_putL2, rd_lkT1, rd_lkT2, rd_lkT3, rd_thT, rd_mvT1, rd_mvT2, rd_asDT, rd_asQT, rd_upT1, rd_upT2, rd_outT1, rd_outT2, rd_ref1, rd_ref2, rd_ref3, rd_ref4, rd_flat6, rd_flats0, rd_flats1, rd_er1, rd_er2, rd_er3, rd_er4, rd_ers0, rd_ers1, rd_ersL, rd_stA, rd_isi1, rd_isi2, rd_isi3, rd_isi4, rd_isX, rd_draw, rd_take, rd_pLt, rd_pLe, rd_pGt, rd_pGe, rd_pTuple1, rd_pTuple2, rd_pStr1, rd_pStr2, rd_pInt, rd_pIntS, rd_pIntB, rd_pOrd, rd_pMax, rd_pSplit, rd_pPart, rd_stO, rd_pCutS, rd_solB, rd_pIn1, rd_pNotIn1, rd_pIn2, rd_pIn3, rd_pNotIn2, rd_pNotIn3, rd_pBls, rd_pJoin2, rd_at0, rd_at1, rd_at2, rd_at3, rd_atL, rd_ixL, rd_pRepr, rd_pGt2, rd_pLt2, rd_pListU1, rd_pListU2, rd_pListU3, rd_pListU4, rd_pSindex, rd_pStarts, rd_f1, rd_pSort, rd_pSortD, rd_oF, rd_qF, rd_fCB, rd_cat, rd_rep, rd_rev, rd_isB, rd_notB, rd_ixA1, rd_ixA2, rd_ixA3, rd_ixA4, rd_ixA5, rd_treS1, rd_treS2, rd_setT1, rd_setT2, rd_slT1, rd_slT2, rd_slT3, rd_pListF]
    by_cases hjb : j < b.length
    · have gb := Pu.atI_nat (List.getElem?_eq_getElem hjb)
      rw [if_pos (by omega), if_pos (by omega)]
      refine ⟨_, ga, _, gb, eqOk_it (hk.2.2.1 _ (List.getElem_mem hia)) (hk.2.2.2 _ (List.getElem_mem hjb)), ?_⟩
      rw [List.getElem?_eq_getElem hia, List.getElem?_eq_getElem hjb] at hd
      split
      · rename_i he
        rw [if_pos ⟨hia, hjb, by rw [he]⟩] at hd
        exact ⟨by omega, nxt (.keep i j) (i + 1) (j + 1) (by omega) (by omega) (by omega) hd⟩
      · rename_i he
        rw [if_neg (fun z => he (Option.some.inj z.2.2))] at hd
        rw [if_pos (by omega)]
        split
        · rename_i hc
          rw [if_pos ⟨hia, by omega⟩] at hd
          exact ⟨by omega, nxt (.cut i) (i + 1) j (by omega) (by omega) (by omega) hd⟩
        · rename_i hc
          rw [if_neg (fun z => hc (by rw [z.2])), if_pos hjb] at hd
          exact ⟨by omega, nxt (.put j) i (j + 1) (by omega) (by omega) (by omega) hd⟩
    · rw [if_pos (by omega), if_neg (by omega), if_pos (by omega)]
      have z1 : Two.l ⟨a, b⟩ (i + 1) j = 0 := l_end2 (by dsimp only; omega)
      have z2 : Two.l ⟨a, b⟩ i j = 0 := l_end2 (by dsimp only; omega)
      rw [z1, z2] at hd ⊢
      rw [if_neg (fun z => hjb z.2.1), if_pos ⟨hia, rfl⟩] at hd
      rw [if_pos rfl]
      exact ⟨by omega, nxt (.cut i) (i + 1) j (by omega) (by omega) (by omega) hd⟩
  · have hjb : j < b.length := by omega
    rw [if_neg (by omega), if_pos (by omega), if_neg (by omega), if_neg (by omega)]
    rw [if_neg (fun z => hia z.1), if_neg (fun z => hia z.1), if_pos hjb] at hd
    exact ⟨by omega, nxt (.put j) i (j + 1) (by omega) (by omega) (by omega) hd⟩
/-! ### kept -/
theorem pp_kept : ∀ as Q X, ps_kept as Q X → p_kept (ends 1 Q) (as ++ nils (2 - as.length)) := by
  rintro as Q X ⟨d, rfl, ss, rfl, hl, h⟩
  have e2 := big
  simp only [p_kept, stD, sSeq, sSet, sIf, sRet, sRetN, sNext, sBreak, sCont, sDrop, sNever, sAsg, sPar, sAug, sApp, sExt, sSetI, sForI, sWhile, sMid, sTry, sRaise, qVar, qC, qOp, qUn, qB, qAnd, qOr, qNot, qAndV, qOrV, qNotV, qIf, qNil, qCons, qCB, qTup, qLst, qCut, qPart, qNo, qM1, qM0, qCall, qChain, qXf, eQ, eVar, eC, eOp, eUn, eIf, eNil, eCons, eCB, eTup, eLst, eO, eCut, eM1, eM0, ePop, eIxV, eAnd, eOr, eNot, eAndV, eOrV, eNotV, eChain, eCutE, eNo, ePart, oSu, iS, tB', tQ, tYes', oE, oPlus, oRep, oTre, oNew, oCompT, iR3, sPut, plVar, plIx, sIns, ePopAt, eRev, oLst, oMove, oIf, oCall, oSt, oComp, iL, iT, iR1, iR2, gN, gT, gsNil, gsCons, cNil, cVal, cRef, free_0, free_succ, ends, outs, nils, resolve, putBack, allRef, refs, wipeE, pIsN, pNotN, pEq, pNe, eqOk_ii, eqOk_ss, eqOk_bb, eqOk_ni, eqOk_in, frS_frz, frS_own, frS_nil, List.replicate, List.getElem?_cons_zero, List.getElem?_cons_succ, List.set_cons_zero, List.set_cons_succ, List.cons_append, List.nil_append, List.length_cons, List.length_nil, List.take_succ_cons, List.take_zero, List.map_cons, List.map_nil, true_and, and_true, D.int.injEq, D.str.injEq, D.lst.injEq, decide_eq_true_eq, ite_true, ite_false, if_true, if_false, reduceIte, Bool.false_eq_true, false_and, and_false, Bool.not_true, Bool.not_false, Option.some.injEq, exists_eq_left', exists_eq_left, exists_and_left, List.nodup_cons, List.nodup_nil, List.not_mem_nil, not_false_eq_true, List.mem_cons, or_false, false_or, forall_eq, forall_eq_or_imp, Slot.own.injEq, Slot.par.injEq, Slot.frz.injEq, reduceCtorEq, exists_eq', exists_eq, exists_false, decide_true, decide_false, or_self, false_implies, implies_true, forall_const, eq_self, rd_lkL1, rd_lkL2, rd_lkL3, rd_lkE1, rd_lkE2, rd_thE1, rd_thE2, rd_lkF1, rd_lkX1, rd_lkX2, rd_lkX3, rd_mvS1, rd_mvS2, rd_mvE1, rd_mvE2, rd_lsO1, rd_lsO2, rd_tpO1, rd_sol1, rd_sol2, rd_sol3, rd_sol4, rd_sol5, rd_sol6, rd_sol7, rd_flat1, rd_flat2, rd_flat3, rd_flat4, rd_flat5, rd_asD1, rd_asD2, rd_asQ1, rd_asQ2, rd_asB, rd_asI, rd_p1, rd_p2, rd_pI0, rd_pI2, rd_pU, rd_pAdd1, rd_pAdd2, rd_pAdd3, rd_pAdd4, rd_pMul1, rd_pMul2, rd_pMul3, rd_pLen1, rd_pLen2, rd_pLen3, rd_pInt1, rd_pAbs, rd_pList1, rd_pList2, rd_pList3, rd_pCut1, rd_pCut2, rd_pCut3, rd_non1, rd_non2, rd_non3, rd_non4, rd_non5, rd_non6, rd_isStr, rd_pIx1, rd_pIx2, rd_pIx3, rd_pJoin1, rd_upS1, rd_upS2, rd_out1, rd_out2, rd_out3, rd_out4, rd_asL1, rd_asL2, rd_putL1, rd_putL2, rd_lkT1, rd_lkT2, rd_lkT3, rd_thT, rd_mvT1, rd_mvT2, rd_asDT, rd_asQT, rd_upT1, rd_upT2, rd_outT1, rd_outT2, rd_ref1, rd_ref2, rd_ref3, rd_ref4, rd_flat6, rd_flats0, rd_flats1, rd_er1, rd_er2, rd_er3, rd_er4, rd_ers0, rd_ers1, rd_ersL, rd_stA, rd_isi1, rd_isi2, rd_isi3, rd_isi4, rd_isX, rd_draw, rd_take, rd_pLt, rd_pLe, rd_pGt, rd_pGe, rd_pTuple1, rd_pTuple2, rd_pStr1, rd_pStr2, rd_pInt, rd_pIntS, rd_pIntB, rd_pOrd, rd_pMax, rd_pSplit, rd_pPart, rd_stO, rd_pCutS, rd_solB, rd_pIn1, rd_pNotIn1, rd_pIn2, rd_pIn3, rd_pNotIn2, rd_pNotIn3, rd_pBls, rd_pJoin2, rd_at0, rd_at1, rd_at2, rd_at3, rd_atL, rd_ixL, rd_pRepr, rd_pGt2, rd_pLt2, rd_pListU1, rd_pListU2, rd_pListU3, rd_pListU4, rd_pSindex, rd_pStarts, rd_f1, rd_pSort, rd_pSortD, rd_oF, rd_qF, rd_fCB, rd_cat, rd_rep, rd_rev, rd_isB, rd_notB, rd_ixA1, rd_ixA2, rd_ixA3, rd_ixA4, rd_ixA5, rd_treS1, rd_treS2, rd_setT1, rd_setT2, rd_slT1, rd_slT2, rd_slT3, rd_pListF]
  refine comp_keep St.d St.isK (by omega) (fun s hs K k1 k0 => ?_) ?_
  · cases s <;> simp only [St.d, ofString_inj, String.reduceEq, sSeq, sSet, sIf, sRet, sRetN, sNext, sBreak, sCont, sDrop, sNever, sAsg, sPar, sAug, sApp, sExt, sSetI, sForI, sWhile, sMid, sTry, sRaise, qVar, qC, qOp, qUn, qB, qAnd, qOr, qNot, qAndV, qOrV, qNotV, qIf, qNil, qCons, qCB, qTup, qLst, qCut, qPart, qNo, qM1, qM0, qCall, qChain, qXf, eQ, eVar, eC, eOp, eUn, eIf, eNil, eCons, eCB, eTup, eLst, eO, eCut, eM1, eM0, ePop, eIxV, eAnd, eOr, eNot, eAndV, eOrV, eNotV, eChain, eCutE, eNo, ePart, oSu, iS, tB', tQ, tYes', oE, oPlus, oRep, oTre, oNew, oCompT, iR3, sPut, plVar, plIx, sIns, ePopAt, eRev, oLst, oMove, oIf, oCall, oSt, oComp, iL, iT, iR1, iR2, gN, gT, gsNil, gsCons, cNil, cVal, cRef, free_0, free_succ, ends, outs, nils, resolve, putBack, allRef, refs, wipeE, pIsN, pNotN, pEq, pNe, eqOk_ii, eqOk_ss, eqOk_bb, eqOk_ni, eqOk_in, frS_frz, frS_own, frS_nil, List.replicate, List.getElem?_cons_zero, List.getElem?_cons_succ, List.set_cons_zero, List.set_cons_succ, List.cons_append, List.nil_append, List.length_cons, List.length_nil, List.take_succ_cons, List.take_zero, List.map_cons, List.map_nil, true_and, and_true, D.int.injEq, D.str.injEq, D.lst.injEq, decide_eq_true_eq, ite_true, ite_false, if_true, if_false, reduceIte, Bool.false_eq_true, false_and, and_false, Bool.not_true, Bool.not_false, Option.some.injEq, exists_eq_left', exists_eq_left, exists_and_left, List.nodup_cons, List.nodup_nil, List.not_mem_nil, not_false_eq_true, List.mem_cons, or_false, false_or, forall_eq, forall_eq_or_imp, Slot.own.injEq, Slot.par.injEq, Slot.frz.injEq, reduceCtorEq, exists_eq', exists_eq, exists_false, decide_true, decide_false, or_self, false_implies, implies_true, forall_const, eq_self, rd_lkL1, rd_lkL2, rd_lkL3, rd_lkE1, rd_lkE2, rd_thE1, rd_thE2, rd_lkF1, rd_lkX1, rd_lkX2, rd_lkX3, rd_mvS1, rd_mvS2, rd_mvE1, rd_mvE2, rd_lsO1, rd_lsO2, rd_tpO1, rd_sol1, rd_sol2, rd_sol3, rd_sol4, rd_sol5, rd_sol6, rd_sol7, rd_flat1, rd_flat2, rd_flat3, rd_flat4, rd_flat5, rd_asD1, rd_asD2, rd_asQ1, rd_asQ2, rd_asB, rd_asI, rd_p1, rd_p2, rd_pI0, rd_pI2, rd_pU, rd_pAdd1, rd_pAdd2, rd_pAdd3, rd_pAdd4, rd_pMul1, rd_pMul2, rd_pMul3, rd_pLen1, rd_pLen2, rd_pLen3, rd_pInt1, rd_pAbs, rd_pList1, rd_pList2, rd_pList3, rd_pCut1, rd_pCut2, rd_pCut3, rd_non1, rd_non2, rd_non3, rd_non4, rd_non5, rd_non6, rd_isStr, rd_pIx1, rd_pIx2, rd_pIx3, rd_pJoin1, rd_upS1, rd_upS2, rd_out1, rd_out2, rd_out3, rd_out4, rd_asL1, rd_asL2, rd_putL1, rd_putL2, rd_lkT1, rd_lkT2, rd_lkT3, rd_thT, rd_mvT1, rd_mvT2, rd_asDT, rd_asQT, rd_upT1, rd_upT2, rd_outT1, rd_outT2, rd_ref1, rd_ref2, rd_ref3, rd_ref4, rd_flat6, rd_flats0, rd_flats1, rd_er1, rd_er2, rd_er3, rd_er4, rd_ers0, rd_ers1, rd_ersL, rd_stA, rd_isi1, rd_isi2, rd_isi3, rd_isi4, rd_isX, rd_draw, rd_take, rd_pLt, rd_pLe, rd_pGt, rd_pGe, rd_pTuple1, rd_pTuple2, rd_pStr1, rd_pStr2, rd_pInt, rd_pIntS, rd_pIntB, rd_pOrd, rd_pMax, rd_pSplit, rd_pPart, rd_stO, rd_pCutS, rd_solB, rd_pIn1, rd_pNotIn1, rd_pIn2, rd_pIn3, rd_pNotIn2, rd_pNotIn3, rd_pBls, rd_pJoin2, rd_at0, rd_at1, rd_at2, rd_at3, rd_atL, rd_ixL, rd_pRepr, rd_pGt2, rd_pLt2, rd_pListU1, rd_pListU2, rd_pListU3, rd_pListU4, rd_pSindex, rd_pStarts, rd_f1, rd_pSort, rd_pSortD, rd_oF, rd_qF, rd_fCB, rd_cat, rd_rep, rd_rev, rd_isB, rd_notB, rd_ixA1, rd_ixA2, rd_ixA3, rd_ixA4, rd_ixA5, rd_treS1, rd_treS2, rd_setT1, rd_setT2, rd_slT1, rd_slT2, rd_slT3, rd_pListF]
    · exact k1 rfl
    · exact k0 rfl
    · exact k0 rfl
  · simp only [sSeq, sSet, sIf, sRet, sRetN, sNext, sBreak, sCont, sDrop, sNever, sAsg, sPar, sAug, sApp, sExt, sSetI, sForI, sWhile, sMid, sTry, sRaise, qVar, qC, qOp, qUn, qB, qAnd, qOr, qNot, qAndV, qOrV, qNotV, qIf, qNil, qCons, qCB, qTup, qLst, qCut, qPart, qNo, qM1, qM0, qCall, qChain, qXf, eQ, eVar, eC, eOp, eUn, eIf, eNil, eCons, eCB, eTup, eLst, eO, eCut, eM1, eM0, ePop, eIxV, eAnd, eOr, eNot, eAndV, eOrV, eNotV, eChain, eCutE, eNo, ePart, oSu, iS, tB', tQ, tYes', oE, oPlus, oRep, oTre, oNew, oCompT, iR3, sPut, plVar, plIx, sIns, ePopAt, eRev, oLst, oMove, oIf, oCall, oSt, oComp, iL, iT, iR1, iR2, gN, gT, gsNil, gsCons, cNil, cVal, cRef, free_0, free_succ, ends, outs, nils, resolve, putBack, allRef, refs, wipeE, pIsN, pNotN, pEq, pNe, eqOk_ii, eqOk_ss, eqOk_bb, eqOk_ni, eqOk_in, frS_frz, frS_own, frS_nil, List.replicate, List.getElem?_cons_zero, List.getElem?_cons_succ, List.set_cons_zero, List.set_cons_succ, List.cons_append, List.nil_append, List.length_cons, List.length_nil, List.take_succ_cons, List.take_zero, List.map_cons, List.map_nil, true_and, and_true, D.int.injEq, D.str.injEq, D.lst.injEq, decide_eq_true_eq, ite_true, ite_false, if_true, if_false, reduceIte, Bool.false_eq_true, false_and, and_false, Bool.not_true, Bool.not_false, Option.some.injEq, exists_eq_left', exists_eq_left, exists_and_left, List.nodup_cons, List.nodup_nil, List.not_mem_nil, not_false_eq_true, List.mem_cons, or_false, false_or, forall_eq, forall_eq_or_imp, Slot.own.injEq, Slot.par.injEq, Slot.frz.injEq, reduceCtorEq, exists_eq', exists_eq, exists_false, decide_true, decide_false, or_self, false_implies, implies_true, forall_const, eq_self, rd_lkL1, rd_lkL2, rd_lkL3, rd_lkE1, rd_lkE2, rd_thE1, rd_thE2, rd_lkF1, rd_lkX1, rd_lkX2, rd_lkX3, rd_mvS1, rd_mvS2, rd_mvE1, rd_mvE2, rd_lsO1, rd_lsO2, rd_tpO1, rd_sol1, rd_sol2, rd_sol3, rd_sol4, rd_sol5, rd_sol6, rd_sol7, rd_flat1, rd_flat2, rd_flat3, rd_flat4, rd_flat5, rd_asD1, rd_asD2, rd_asQ1, rd_asQ2, rd_asB, rd_asI, rd_p1, rd_p2, rd_pI0, rd_pI2, rd_pU, rd_pAdd1, rd_pAdd2, rd_pAdd3, rd_pAdd4, rd_pMul1, rd_pMul2, rd_pMul3, rd_pLen1, rd_pLen2, rd_pLen3, rd_pInt1, rd_pAbs, rd_pList1, rd_pList2, rd_pList3, rd_pCut1, rd_pCut2, rd_pCut3, rd_non1, rd_non2, rd_non3, rd_non4, rd_non5, rd_non6, rd_isStr, rd_pIx1, rd_pIx2, rd_pIx3, rd_pJoin1, rd_upS1, rd_upS2, rd_out1, rd_out2, rd_out3, rd_out4, rd_asL1, rd_asL2, rd_putL1, rd_putL2, rd_lkT1, rd_lkT2, rd_lkT3, rd_thT, rd_mvT1, rd_mvT2, rd_asDT, rd_asQT, rd_upT1, rd_upT2, rd_outT1, rd_outT2, rd_ref1, rd_ref2, rd_ref3, rd_ref4, rd_flat6, rd_flats0, rd_flats1, rd_er1, rd_er2, rd_er3, rd_er4, rd_ers0, rd_ers1, rd_ersL, rd_stA, rd_isi1, rd_isi2, rd_isi3, rd_isi4, rd_isX, rd_draw, rd_take, rd_pLt, rd_pLe, rd_pGt, rd_pGe, rd_pTuple1, rd_pTuple2, rd_pStr1, rd_pStr2, rd_pInt, rd_pIntS, rd_pIntB, rd_pOrd, rd_pMax, rd_pSplit, rd_pPart, rd_stO, rd_pCutS, rd_solB, rd_pIn1, rd_pNotIn1, rd_pIn2, rd_pIn3, rd_pNotIn2, rd_pNotIn3, rd_pBls, rd_pJoin2, rd_at0, rd_at1, rd_at2, rd_at3, rd_atL, rd_ixL, rd_pRepr, rd_pGt2, rd_pLt2, rd_pListU1, rd_pListU2, rd_pListU3, rd_pListU4, rd_pSindex, rd_pStarts, rd_f1, rd_pSort, rd_pSortD, rd_oF, rd_qF, rd_fCB, rd_cat, rd_rep, rd_rev, rd_isB, rd_notB, rd_ixA1, rd_ixA2, rd_ixA3, rd_ixA4, rd_ixA5, rd_treS1, rd_treS2, rd_setT1, rd_setT2, rd_slT1, rd_slT2, rd_slT3, rd_pListF]
    rw [List.length_map]
    exact h
/-! ### does it lead there? -/
theorem ok_st {k : Nat} (s : St) : D.ok (k + 1) s.d := by
  cases s <;> refine ok_tup.mpr fun d hd => ?_ <;> simp only [List.mem_cons, List.not_mem_nil, or_false] at hd
  · rcases hd with rfl | rfl | rfl
    · exact ok_str.mpr (by decide +kernel)
    · exact ok_int.mpr trivial
    · exact ok_int.mpr trivial
  · rcases hd with rfl | rfl
    · exact ok_str.mpr (by decide +kernel)
    · exact ok_int.mpr trivial
  · rcases hd with rfl | rfl
    · exact ok_str.mpr (by decide +kernel)
    · exact ok_int.mpr trivial
def I_sr (w : Two) (ss : List St) (k : Nat) (env : Pu.Env) : Prop := ∃ (i j : Nat) (x5 : Pu.Slot), env = [.frz (.lst w.a), .frz (.lst w.b), .frz (stD ss), .frz (.int i), .frz (.int j), x5] ∧ w.right 0 0 ss = w.right i j (ss.drop k) ∧ i ≤ w.a.length ∧ j ≤ w.b.length ∧ frS x5 = true
theorem pp_script_right : ∀ as Q X, ps_script_right as Q X → p_script_right (ends 3 Q) (as ++ nils (6 - as.length)) := by
  rintro as Q X ⟨⟨a, b, d⟩, rfl, hk, ss, hd, hl, h⟩
  dsimp only at hk hd h
  subst hd
  have e2 := big
  have la := hk.1
  have lb := hk.2.1
  dsimp only at la lb
  simp only [p_script_right, stD, sSeq, sSet, sIf, sRet, sRetN, sNext, sBreak, sCont, sDrop, sNever, sAsg, sPar, sAug, sApp, sExt, sSetI, sForI, sWhile, sMid, sTry, sRaise, qVar, qC, qOp, qUn, qB, qAnd, qOr, qNot, qAndV, qOrV, qNotV, qIf, qNil, qCons, qCB, qTup, qLst, qCut, qPart, qNo, qM1, qM0, qCall, qChain, qXf, eQ, eVar, eC, eOp, eUn, eIf, eNil, eCons, eCB, eTup, eLst, eO, eCut, eM1, eM0, ePop, eIxV, eAnd, eOr, eNot, eAndV, eOrV, eNotV, eChain, eCutE, eNo, ePart, oSu, iS, tB', tQ, tYes', oE, oPlus, oRep, oTre, oNew, oCompT, iR3, sPut, plVar, plIx, sIns, ePopAt, eRev, oLst, oMove, oIf, oCall, oSt, oComp, iL, iT, iR1, iR2, gN, gT, gsNil, gsCons, cNil, cVal, cRef, free_0, free_succ, ends, outs, nils, resolve, putBack, allRef, refs, wipeE, pIsN, pNotN, pEq, pNe, eqOk_ii, eqOk_ss, eqOk_bb, eqOk_ni, eqOk_in, frS_frz, frS_own, frS_nil, List.replicate, List.getElem?_cons_zero, List.getElem?_cons_succ, List.set_cons_zero, List.set_cons_succ, List.cons_append, List.nil_append, List.length_cons, List.length_nil, List.take_succ_cons, List.take_zero, List.map_cons, List.map_nil, true_and, and_true, D.int.injEq, D.str.injEq, D.lst.injEq, decide_eq_true_eq, ite_true, ite_false, if_true, if_false, reduceIte, Bool.false_eq_true, false_and, and_false, Bool.not_true, Bool.not_false, Option.some.injEq, exists_eq_left', exists_eq_left, exists_and_left, List.nodup_cons, List.nodup_nil, List.not_mem_nil, not_false_eq_true, List.mem_cons, or_false, false_or, forall_eq, forall_eq_or_imp, Slot.own.injEq, Slot.par.injEq, Slot.frz.injEq, reduceCtorEq, exists_eq', exists_eq, exists_false, decide_true, decide_false, or_self, false_implies, implies_true, forall_const, eq_self, rd_lkL1, rd_lkL2, rd_lkL3, rd_lkE1, rd_lkE2, rd_thE1, rd_thE2, rd_lkF1, rd_lkX1, rd_lkX2, rd_lkX3, rd_mvS1, rd_mvS2, rd_mvE1, rd_mvE2, rd_lsO1, rd_lsO2, rd_tpO1, rd_sol1, rd_sol2, rd_sol3, rd_sol4, rd_sol5, rd_sol6, rd_sol7, rd_flat1, rd_flat2, rd_flat3, rd_flat4, rd_flat5, rd_asD1, rd_asD2, rd_asQ1, rd_asQ2, rd_asB, rd_asI, rd_p1, rd_p2, rd_pI0, rd_pI2, rd_pU, rd_pAdd1, rd_pAdd2, rd_pAdd3, rd_pAdd4, rd_pMul1, rd_pMul2, rd_pMul3, rd_pLen1, rd_pLen2, rd_pLen3, rd_pInt1, rd_pAbs, rd_pList1, rd_pList2, rd_pList3, rd_pCut1, rd_pCut2, rd_pCut3, rd_non1, rd_non2, rd_non3, rd_non4, rd_non5, rd_non6, rd_isStr, rd_pIx1, rd_pIx2, rd_pIx3, rd_pJoin1, rd_upS1, rd_upS2, rd_out1, rd_out2, rd_out3, rd_out4, rd_asL1, rd_asL2, rd_putL1, rd_putL2, rd_lkT1, rd_lkT2, rd_lkT3, rd_thT, rd_mvT1, rd_mvT2, rd_asDT, rd_asQT, rd_upT1, rd_upT2, rd_outT1, rd_outT2, rd_ref1, rd_ref2, rd_ref3, rd_ref4, rd_flat6, rd_flats0, rd_flats1, rd_er1, rd_er2, rd_er3, rd_er4, rd_ers0, rd_ers1, rd_ersL, rd_stA, rd_isi1, rd_isi2, rd_isi3, rd_isi4, rd_isX, rd_draw, rd_take, rd_pLt, rd_pLe, rd_pGt, rd_pGe, rd_pTuple1, rd_pTuple2, rd_pStr1, rd_pStr2, rd_pInt, rd_pIntS, rd_pIntB, rd_pOrd, rd_pMax, rd_pSplit, rd_pPart, rd_stO, rd_pCutS, rd_solB, rd_pIn1, rd_pNotIn1, rd_pIn2, rd_pIn3, rd_pNotIn2, rd_pNotIn3, rd_pBls, rd_pJoin2, rd_at0, rd_at1, rd_at2, rd_at3, rd_atL, rd_ixL, rd_pRepr, rd_pGt2, rd_pLt2, rd_pListU1, rd_pListU2, rd_pListU3, rd_pListU4, rd_pSindex, rd_pStarts, rd_f1, rd_pSort, rd_pSortD, rd_oF, rd_qF, rd_fCB, rd_cat, rd_rep, rd_rev, rd_isB, rd_notB, rd_ixA1, rd_ixA2, rd_ixA3, rd_ixA4, rd_ixA5, rd_treS1, rd_treS2, rd_setT1, rd_setT2, rd_slT1, rd_slT2, rd_slT3, rd_pListF]
  refine ⟨I_sr ⟨a, b⟩ ss, ⟨0, 0, .nil, rfl, rfl, by omega, by omega, rfl⟩, ?_⟩
  rintro k env ⟨i, j, x5, rfl, hr, hi, hj, f5⟩
  dsimp only at hi hj
  refine ⟨fun d hd => ?_, fun hi2 => ?_⟩
  · rw [List.getElem?_map] at hd
    cases hs : ss[k]? with
    | none => rw [hs] at hd; cases hd
    | some s =>
    rw [hs] at hd
    cases hd
    have hdr : ss.drop k = s :: ss.drop (k + 1) := by
      obtain ⟨hk1, hk2⟩ := List.getElem?_eq_some_iff.mp hs
      rw [List.drop_eq_getElem_cons hk1, hk2]
    rw [hdr] at hr
    have e1 : ((i : Int) + 1) = ((i + 1 : Nat) : Int) := by omega
    have e3 : ((j : Int) + 1) = ((j + 1 : Nat) : Int) := by omega
    have bad : Two.right ⟨a, b⟩ 0 0 ss = false → Q (.frz (.bl false)) [.nil, .nil, .nil] := fun z => by rw [z] at h; exact h
    cases s with
    | keep x y =>
      simp only [f5, St.d, ofString_inj, String.reduceEq, sSeq, sSet, sIf, sRet, sRetN, sNext, sBreak, sCont, sDrop, sNever, sAsg, sPar, sAug, sApp, sExt, sSetI, sForI, sWhile, sMid, sTry, sRaise, qVar, qC, qOp, qUn, qB, qAnd, qOr, qNot, qAndV, qOrV, qNotV, qIf, qNil, qCons, qCB, qTup, qLst, qCut, qPart, qNo, qM1, qM0, qCall, qChain, qXf, eQ, eVar, eC, eOp, eUn, eIf, eNil, eCons, eCB, eTup, eLst, eO, eCut, eM1, eM0, ePop, eIxV, eAnd, eOr, eNot, eAndV, eOrV, eNotV, eChain, eCutE, eNo, ePart, oSu, iS, tB', tQ, tYes', oE, oPlus, oRep, oTre, oNew, oCompT, iR3, sPut, plVar, plIx, sIns, ePopAt, eRev, oLst, oMove, oIf, oCall, oSt, oComp, iL, iT, iR1, iR2, gN, gT, gsNil, gsCons, cNil, cVal, cRef, free_0, free_succ, ends, outs, nils, resolve, putBack, allRef, refs, wipeE, pIsN, pNotN, pEq, pNe, eqOk_ii, eqOk_ss, eqOk_bb, eqOk_ni, eqOk_in, frS_frz, frS_own, frS_nil, List.replicate, List.getElem?_cons_zero, List.getElem?_cons_succ, List.set_cons_zero, List.set_cons_succ, List.cons_append, List.nil_append, List.length_cons, List.length_nil, List.take_succ_cons, List.take_zero, List.map_cons, List.map_nil, true_and, and_true, D.int.injEq, D.str.injEq, D.lst.injEq, decide_eq_true_eq, ite_true, ite_false, if_true, if_false, reduceIte, Bool.false_eq_true, false_and, and_false, Bool.not_true, Bool.not_false, Option.some.injEq, exists_eq_left', exists_eq_left, exists_and_left, List.nodup_cons, List.nodup_nil, List.not_mem_nil, not_false_eq_true, List.mem_cons, or_false, false_or, forall_eq, forall_eq_or_imp, Slot.own.injEq, Slot.par.injEq, Slot.frz.injEq, reduceCtorEq, exists_eq', exists_eq, exists_false, decide_true, decide_false, or_self, false_implies, implies_true, forall_const, eq_self, rd_lkL1, rd_lkL2, rd_lkL3, rd_lkE1, rd_lkE2, rd_thE1, rd_thE2, rd_lkF1, rd_lkX1, rd_lkX2, rd_lkX3, rd_mvS1, rd_mvS2, rd_mvE1, rd_mvE2, rd_lsO1, rd_lsO2, rd_tpO1, rd_sol1, rd_sol2, rd_sol3, rd_sol4, rd_sol5, rd_sol6, rd_sol7, rd_flat1, rd_flat2, rd_flat3, rd_flat4, rd_flat5, rd_asD1, rd_asD2, rd_asQ1, rd_asQ2, rd_asB, rd_asI, rd_p1, rd_p2, rd_pI0, rd_pI2, rd_pU, rd_pAdd1, rd_pAdd2, rd_pAdd3, rd_pAdd4, rd_pMul1, rd_pMul2, rd_pMul3, rd_pLen1, rd_pLen2, rd_pLen3, rd_pInt1, rd_pAbs, rd_pList1, rd_pList2, rd_pList3, rd_pCut1, rd_pCut2, rd_pCut3, rd_non1, rd_non2, rd_non3, rd_non4, rd_non5, rd_non6, rd_isStr, rd_pIx1, rd_pIx2, rd_pIx3, rd_pJoin1, rd_upS1, rd_upS2, rd_out1, rd_out2, rd_out3, rd_out4, rd_asL1, rd_asL2, rd_putL1, rd_putL2, rd_lkT1, rd_lkT2, rd_lkT3, rd_thT, rd_mvT1, rd_mvT2, rd_asDT, rd_asQT, rd_upT1, rd_upT2, rd_outT1, rd_outT2, rd_ref1, rd_ref2, rd_ref3, rd_ref4, rd_flat6, rd_flats0, rd_flats1, rd_er1, rd_er2, rd_er3, rd_er4, rd_ers0, rd_ers1, rd_ersL, rd_stA, rd_isi1, rd_isi2, rd_isi3, rd_isi4, rd_isX, rd_draw, rd_take, rd_pLt, rd_pLe, rd_pGt, rd_pGe, rd_pTuple1, rd_pTuple2, rd_pStr1, rd_pStr2, rd_pInt, rd_pIntS, rd_pIntB, rd_pOrd, rd_pMax, rd_pSplit, rd_pPart, rd_stO, rd_pCutS, rd_solB, rd_pIn1, rd_pNotIn1, rd_pIn2, rd_pIn3, rd_pNotIn2, rd_pNotIn3, rd_pBls, rd_pJoin2, rd_at0, rd_at1, rd_at2, rd_at3, rd_atL, rd_ixL, rd_pRepr, rd_pGt2, rd_pLt2, rd_pListU1, rd_pListU2, rd_pListU3, rd_pListU4, rd_pSindex, rd_pStarts, rd_f1, rd_pSort, rd_pSortD, rd_oF, rd_qF, rd_fCB, rd_cat, rd_rep, rd_rev, rd_isB, rd_notB, rd_ixA1, rd_ixA2, rd_ixA3, rd_ixA4, rd_ixA5, rd_treS1, rd_treS2, rd_setT1, rd_setT2, rd_slT1, rd_slT2, rd_slT3, rd_pListF]
      rw [Two.right] at hr
      refine ⟨by omega, eqOk_ok (ok_st (.keep x y)) (ok_st (.keep i j)), ?_⟩
      by_cases hxy : x = i ∧ y = j
      · obtain ⟨rfl, rfl⟩ := hxy
        rw [if_neg (by simp)]
        by_cases hia : i < a.length
        · rw [if_neg (by omega)]
          by_cases hjb : j < b.length
          · rw [if_neg (by omega)]
            have ga := Pu.atI_nat (List.getElem?_eq_getElem hia)
            have gb := Pu.atI_nat (List.getElem?_eq_getElem hjb)
            have ia := hk.2.2.1 _ (List.getElem_mem hia)
            have ib := hk.2.2.2 _ (List.getElem_mem hjb)
            dsimp only at hr ia ib
            rw [Int.toNat_natCast, Int.toNat_natCast, List.getElem?_eq_getElem hia, List.getElem?_eq_getElem hjb] at hr
            refine ⟨_, ga, ?_⟩
            by_cases he : a[i] = b[j]
            · have hn : isNone a[i] = false := by
                rw [he]
                obtain ⟨t, ht, _⟩ := ib
                rw [ht]
                rfl
              rw [hn]
              rw [if_neg (by simp)]
              refine ⟨_, ga, _, gb, eqOk_it ia ib, ?_⟩
              rw [if_neg (by simp [he])]
              rw [decide_eq_true ⟨rfl, rfl, by omega, by omega, by rw [he]⟩, Bool.true_and, e1, e3] at hr
              rw [e1, e3]
              exact ⟨i + 1, j + 1, _, rfl, hr, by dsimp only; omega, by dsimp only; omega, rfl⟩
            · have bd := bad (by rw [hr, decide_eq_false (fun z => he (Option.some.inj z.2.2.2.2))]; rfl)
              by_cases hn : isNone a[i] = true
              · rw [if_pos hn]
                exact bd
              · rw [if_neg hn]
                refine ⟨_, ga, _, gb, eqOk_it ia ib, ?_⟩
                rw [if_pos (by simp [he])]
                exact bd
          · rw [if_pos (by omega)]
            exact bad (by rw [hr, decide_eq_false (fun z => hjb (by have := z.2.2.2.1; dsimp only at this; omega))]; rfl)
        · rw [if_pos (by omega)]
          exact bad (by rw [hr, decide_eq_false (fun z => hia (by have := z.2.2.1; dsimp only at this; omega))]; rfl)
      · rw [if_pos (by simp; omega)]
        exact bad (by rw [hr, decide_eq_false (fun z => hxy ⟨z.1, z.2.1⟩)]; rfl)
    | cut x =>
      simp only [f5, St.d, ofString_inj, String.reduceEq, sSeq, sSet, sIf, sRet, sRetN, sNext, sBreak, sCont, sDrop, sNever, sAsg, sPar, sAug, sApp, sExt, sSetI, sForI, sWhile, sMid, sTry, sRaise, qVar, qC, qOp, qUn, qB, qAnd, qOr, qNot, qAndV, qOrV, qNotV, qIf, qNil, qCons, qCB, qTup, qLst, qCut, qPart, qNo, qM1, qM0, qCall, qChain, qXf, eQ, eVar, eC, eOp, eUn, eIf, eNil, eCons, eCB, eTup, eLst, eO, eCut, eM1, eM0, ePop, eIxV, eAnd, eOr, eNot, eAndV, eOrV, eNotV, eChain, eCutE, eNo, ePart, oSu, iS, tB', tQ, tYes', oE, oPlus, oRep, oTre, oNew, oCompT, iR3, sPut, plVar, plIx, sIns, ePopAt, eRev, oLst, oMove, oIf, oCall, oSt, oComp, iL, iT, iR1, iR2, gN, gT, gsNil, gsCons, cNil, cVal, cRef, free_0, free_succ, ends, outs, nils, resolve, putBack, allRef, refs, wipeE, pIsN, pNotN, pEq, pNe, eqOk_ii, eqOk_ss, eqOk_bb, eqOk_ni, eqOk_in, frS_frz, frS_own, frS_nil, List.replicate, List.getElem?_cons_zero, List.getElem?_cons_succ, List.set_cons_zero, List.set_cons_succ, List.cons_append, List.nil_append, List.length_cons, List.length_nil, List.take_succ_cons, List.take_zero, List.map_cons, List.map_nil, true_and, and_true, D.int.injEq, D.str.injEq, D.lst.injEq, decide_eq_true_eq, ite_true, ite_false, if_true, if_false, reduceIte, Bool.false_eq_true, false_and, and_false, Bool.not_true, Bool.not_false, Option.some.injEq, exists_eq_left', exists_eq_left, exists_and_left, List.nodup_cons, List.nodup_nil, List.not_mem_nil, not_false_eq_true, List.mem_cons, or_false, false_or, forall_eq, forall_eq_or_imp, Slot.own.injEq, Slot.par.injEq, Slot.frz.injEq, reduceCtorEq, exists_eq', exists_eq, exists_false, decide_true, decide_false, or_self, false_implies, implies_true, forall_const, eq_self, rd_lkL1, rd_lkL2, rd_lkL3, rd_lkE1, rd_lkE2, rd_thE1, rd_thE2, rd_lkF1, rd_lkX1, rd_lkX2, rd_lkX3, rd_mvS1, rd_mvS2, rd_mvE1, rd_mvE2, rd_lsO1, rd_lsO2, rd_tpO1, rd_sol1, rd_sol2, rd_sol3, rd_sol4, rd_sol5, rd_sol6, rd_sol7, rd_flat1, rd_flat2, rd_flat3, rd_flat4, rd_flat5, rd_asD1, rd_asD2, rd_asQ1, rd_asQ2, rd_asB, rd_asI, rd_p1, rd_p2, rd_pI0, rd_pI2, rd_pU, rd_pAdd1, rd_pAdd2, rd_pAdd3, rd_pAdd4, rd_pMul1, rd_pMul2, rd_pMul3, rd_pLen1, rd_pLen2, rd_pLen3, rd_pInt1, rd_pAbs, rd_pList1, rd_pList2, rd_pList3, rd_pCut1, rd_pCut2, rd_pCut3, rd_non1, rd_non2, rd_non3, rd_non4, rd_non5, rd_non6, rd_isStr, rd_pIx1, rd_pIx2, rd_pIx3, rd_pJoin1, rd_upS1, rd_upS2, rd_out1, rd_out2, rd_out3, rd_out4, rd_asL1, rd_asL2, rd_putL1, rd_putL2, rd_lkT1, rd_lkT2, rd_lkT3, rd_thT, rd_mvT1, rd_mvT2, rd_asDT, rd_asQT, rd_upT1, rd_upT2, rd_outT1, rd_outT2, rd_ref1, rd_ref2, rd_ref3, rd_ref4, rd_flat6, rd_flats0, rd_flats1, rd_er1, rd_er2, rd_er3, rd_er4, rd_ers0, rd_ers1, rd_ersL, rd_stA, rd_isi1, rd_isi2, rd_isi3, rd_isi4, rd_isX, rd_draw, rd_take, rd_pLt, rd_pLe, rd_pGt, rd_pGe, rd_pTuple1, rd_pTuple2, rd_pStr1, rd_pStr2, rd_pInt, rd_pIntS, rd_pIntB, rd_pOrd, rd_pMax, rd_pSplit, rd_pPart, rd_stO, rd_pCutS, rd_solB, rd_pIn1, rd_pNotIn1, rd_pIn2, rd_pIn3, rd_pNotIn2, rd_pNotIn3, rd_pBls, rd_pJoin2, rd_at0, rd_at1, rd_at2, rd_at3, rd_atL, rd_ixL, rd_pRepr, rd_pGt2, rd_pLt2, rd_pListU1, rd_pListU2, rd_pListU3, rd_pListU4, rd_pSindex, rd_pStarts, rd_f1, rd_pSort, rd_pSortD, rd_oF, rd_qF, rd_fCB, rd_cat, rd_rep, rd_rev, rd_isB, rd_notB, rd_ixA1, rd_ixA2, rd_ixA3, rd_ixA4, rd_ixA5, rd_treS1, rd_treS2, rd_setT1, rd_setT2, rd_slT1, rd_slT2, rd_slT3, rd_pListF]
      rw [Two.right] at hr
      refine ⟨by omega, eqOk_ok (ok_st (.cut x)) (ok_st (.cut i)), ?_⟩
      by_cases hxy : x = i
      · subst hxy
        rw [if_neg (by simp)]
        by_cases hia : i < a.length
        · rw [if_neg (by omega)]
          rw [decide_eq_true ⟨rfl, by dsimp only; omega⟩, Bool.true_and, e1] at hr
          rw [e1]
          exact ⟨i + 1, j, _, rfl, hr, by dsimp only; omega, by dsimp only; omega, rfl⟩
        · rw [if_pos (by omega)]
          exact bad (by rw [hr, decide_eq_false (fun z => hia (by have := z.2; dsimp only at this; omega))]; rfl)
      · rw [if_pos (by simpa using hxy)]
        exact bad (by rw [hr, decide_eq_false (fun z => hxy z.1)]; rfl)
    | put y =>
      simp only [f5, St.d, ofString_inj, String.reduceEq, sSeq, sSet, sIf, sRet, sRetN, sNext, sBreak, sCont, sDrop, sNever, sAsg, sPar, sAug, sApp, sExt, sSetI, sForI, sWhile, sMid, sTry, sRaise, qVar, qC, qOp, qUn, qB, qAnd, qOr, qNot, qAndV, qOrV, qNotV, qIf, qNil, qCons, qCB, qTup, qLst, qCut, qPart, qNo, qM1, qM0, qCall, qChain, qXf, eQ, eVar, eC, eOp, eUn, eIf, eNil, eCons, eCB, eTup, eLst, eO, eCut, eM1, eM0, ePop, eIxV, eAnd, eOr, eNot, eAndV, eOrV, eNotV, eChain, eCutE, eNo, ePart, oSu, iS, tB', tQ, tYes', oE, oPlus, oRep, oTre, oNew, oCompT, iR3, sPut, plVar, plIx, sIns, ePopAt, eRev, oLst, oMove, oIf, oCall, oSt, oComp, iL, iT, iR1, iR2, gN, gT, gsNil, gsCons, cNil, cVal, cRef, free_0, free_succ, ends, outs, nils, resolve, putBack, allRef, refs, wipeE, pIsN, pNotN, pEq, pNe, eqOk_ii, eqOk_ss, eqOk_bb, eqOk_ni, eqOk_in, frS_frz, frS_own, frS_nil, List.replicate, List.getElem?_cons_zero, List.getElem?_cons_succ, List.set_cons_zero, List.set_cons_succ, List.cons_append, List.nil_append, List.length_cons, List.length_nil, List.take_succ_cons, List.take_zero, List.map_cons, List.map_nil, true_and, and_true, D.int.injEq, D.str.injEq, D.lst.injEq, decide_eq_true_eq, ite_true, ite_false, if_true, if_false, reduceIte, Bool.false_eq_true, false_and, and_false, Bool.not_true, Bool.not_false, Option.some.injEq, exists_eq_left', exists_eq_left, exists_and_left, List.nodup_cons, List.nodup_nil, List.not_mem_nil, not_false_eq_true, List.mem_cons, or_false, false_or, forall_eq, forall_eq_or_imp, Slot.own.injEq, Slot.par.injEq, Slot.frz.injEq, reduceCtorEq, exists_eq', exists_eq, exists_false, decide_true, decide_false, or_self, false_implies, implies_true, forall_const, eq_self, rd_lkL1, rd_lkL2, rd_lkL3, rd_lkE1, rd_lkE2, rd_thE1, rd_thE2, rd_lkF1, rd_lkX1, rd_lkX2, rd_lkX3, rd_mvS1, rd_mvS2, rd_mvE1, rd_mvE2, rd_lsO1, rd_lsO2, rd_tpO1, rd_sol1, rd_sol2, rd_sol3, rd_sol4, rd_sol5, rd_sol6, rd_sol7, rd_flat1, rd_flat2, rd_flat3, rd_flat4, rd_flat5, rd_asD1, rd_asD2, rd_asQ1, rd_asQ2, rd_asB, rd_asI, rd_p1, rd_p2, rd_pI0, rd_pI2, rd_pU, rd_pAdd1, rd_pAdd2, rd_pAdd3, rd_pAdd4, rd_pMul1, rd_pMul2, rd_pMul3, rd_pLen1, rd_pLen2, rd_pLen3, rd_pInt1, rd_pAbs, rd_pList1, rd_pList2, rd_pList3, rd_pCut1, rd_pCut2, rd_pCut3, rd_non1, rd_non2, rd_non3, rd_non4, rd_non5, rd_non6, rd_isStr, rd_pIx1, rd_pIx2, rd_pIx3, rd_pJoin1, rd_upS1, rd_upS2, rd_out1, rd_out2, rd_out3, rd_out4, rd_asL1, rd_asL2, rd_putL1, rd_putL2, rd_lkT1, rd_lkT2, rd_lkT3, rd_thT, rd_mvT1, rd_mvT2, rd_asDT, rd_asQT, rd_upT1, rd_upT2, rd_outT1, rd_outT2, rd_ref1, rd_ref2, rd_ref3, rd_ref4, rd_flat6, rd_flats0, rd_flats1, rd_er1, rd_er2, rd_er3, rd_er4, rd_ers0, rd_ers1, rd_ersL, rd_stA, rd_isi1, rd_isi2, rd_isi3, rd_isi4, rd_isX, rd_draw, rd_take, rd_pLt, rd_pLe, rd_pGt, rd_pGe, rd_pTuple1, rd_pTuple2, rd_pStr1, rd_pStr2, rd_pInt, rd_pIntS, rd_pIntB, rd_pOrd, rd_pMax, rd_pSplit, rd_pPart, rd_stO, rd_pCutS, rd_solB, rd_pIn1, rd_pNotIn1, rd_pIn2, rd_pIn3, rd_pNotIn2, rd_pNotIn3, rd_pBls, rd_pJoin2, rd_at0, rd_at1, rd_at2, rd_at3, rd_atL, rd_ixL, rd_pRepr, rd_pGt2, rd_pLt2, rd_pListU1, rd_pListU2, rd_pListU3, rd_pListU4, rd_pSindex, rd_pStarts, rd_f1, rd_pSort, rd_pSortD, rd_oF, rd_qF, rd_fCB, rd_cat, rd_rep, rd_rev, rd_isB, rd_notB, rd_ixA1, rd_ixA2, rd_ixA3, rd_ixA4, rd_ixA5, rd_treS1, rd_treS2, rd_setT1, rd_setT2, rd_slT1, rd_slT2, rd_slT3, rd_pListF]
      rw [Two.right] at hr
      refine ⟨by omega, eqOk_ok (ok_st (.put y)) (ok_st (.put j)), ?_⟩
      by_cases hxy : y = j
      · subst hxy
        rw [if_neg (by simp)]
        by_cases hia : j < b.length
        · rw [if_neg (by omega)]
          rw [decide_eq_true ⟨rfl, by dsimp only; omega⟩, Bool.true_and, e3] at hr
          rw [e3]
          exact ⟨i, j + 1, _, rfl, hr, by dsimp only; omega, by dsimp only; omega, rfl⟩
        · rw [if_pos (by omega)]
          exact bad (by rw [hr, decide_eq_false (fun z => hia (by have := z.2; dsimp only at this; omega))]; rfl)
      · rw [if_pos (by simpa using hxy)]
        exact bad (by rw [hr, decide_eq_false (fun z => hxy z.1)]; rfl)
  · rw [List.length_map] at hi2
    subst hi2
    rw [List.drop_length] at hr
    rw [hr] at h
    simp only [f5, sSeq, sSet, sIf, sRet, sRetN, sNext, sBreak, sCont, sDrop, sNever, sAsg, sPar, sAug, sApp, sExt, sSetI, sForI, sWhile, sMid, sTry, sRaise, qVar, qC, qOp, qUn, qB, qAnd, qOr, qNot, qAndV, qOrV, qNotV, qIf, qNil, qCons, qCB, qTup, qLst, qCut, qPart, qNo, qM1, qM0, qCall, qChain, qXf, eQ, eVar, eC, eOp, eUn, eIf, eNil, eCons, eCB, eTup, eLst, eO, eCut, eM1, eM0, ePop, eIxV, eAnd, eOr, eNot, eAndV, eOrV, eNotV, eChain, eCutE, eNo, ePart, oSu, iS, tB', tQ, tYes', oE, oPlus, oRep, oTre, oNew, oCompT, iR3, sPut, plVar, plIx, sIns, ePopAt, eRev, oLst, oMove, oIf, oCall, oSt, oComp, iL, iT, iR1, iR2, gN, gT, gsNil, gsCons, cNil, cVal, cRef, free_0, free_succ, ends, outs, nils, resolve, putBack, allRef, refs, wipeE, pIsN, pNotN, pEq, pNe, eqOk_ii, eqOk_ss, eqOk_bb, eqOk_ni, eqOk_in, frS_frz, frS_own, frS_nil, List.replicate, List.getElem?_cons_zero, List.getElem?_cons_succ, List.set_cons_zero, List.set_cons_succ, List.cons_append, List.nil_append, List.length_cons, List.length_nil, List.take_succ_cons, List.take_zero, List.map_cons, List.map_nil, true_and, and_true, D.int.injEq, D.str.injEq, D.lst.injEq, decide_eq_true_eq, ite_true, ite_false, if_true, if_false, reduceIte, Bool.false_eq_true, false_and, and_false, Bool.not_true, Bool.not_false, Option.some.injEq, exists_eq_left', exists_eq_left, exists_and_left, List.nodup_cons, List.nodup_nil, List.not_mem_nil, not_false_eq_true, List.mem_cons, or_false, false_or, forall_eq, forall_eq_or_imp, Slot.own.injEq, Slot.par.injEq, Slot.frz.injEq, reduceCtorEq, exists_eq', exists_eq, exists_false, decide_true, decide_false, or_self, false_implies, implies_true, forall_const, eq_self, rd_lkL1, rd_lkL2, rd_lkL3, rd_lkE1, rd_lkE2, rd_thE1, rd_thE2, rd_lkF1, rd_lkX1, rd_lkX2, rd_lkX3, rd_mvS1, rd_mvS2, rd_mvE1, rd_mvE2, rd_lsO1, rd_lsO2, rd_tpO1, rd_sol1, rd_sol2, rd_sol3, rd_sol4, rd_sol5, rd_sol6, rd_sol7, rd_flat1, rd_flat2, rd_flat3, rd_flat4, rd_flat5, rd_asD1, rd_asD2, rd_asQ1, rd_asQ2, rd_asB, rd_asI, rd_p1, rd_p2, rd_pI0, rd_pI2, rd_pU, rd_pAdd1, rd_pAdd2, rd_pAdd3, rd_pAdd4, rd_pMul1, rd_pMul2, rd_pMul3, rd_pLen1, rd_pLen2, rd_pLen3, rd_pInt1, rd_pAbs, rd_pList1, rd_pList2, rd_pList3, rd_pCut1, rd_pCut2, rd_pCut3, rd_non1, rd_non2, rd_non3, rd_non4, rd_non5, rd_non6, rd_isStr, rd_pIx1, rd_pIx2, rd_pIx3, rd_pJoin1, rd_upS1, rd_upS2, rd_out1, rd_out2, rd_out3, rd_out4, rd_asL1, rd_asL2, rd_putL1, rd_putL2, rd_lkT1, rd_lkT2, rd_lkT3, rd_thT, rd_mvT1, rd_mvT2, rd_asDT, rd_asQT, rd_upT1, rd_upT2, rd_outT1, rd_outT2, rd_ref1, rd_ref2, rd_ref3, rd_ref4, rd_flat6, rd_flats0, rd_flats1, rd_er1, rd_er2, rd_er3, rd_er4, rd_ers0, rd_ers1, rd_ersL, rd_stA, rd_isi1, rd_isi2, rd_isi3, rd_isi4, rd_isX, rd_draw, rd_take, rd_pLt, rd_pLe, rd_pGt, rd_pGe, rd_pTuple1, rd_pTuple2, rd_pStr1, rd_pStr2, rd_pInt, rd_pIntS, rd_pIntB, rd_pOrd, rd_pMax, rd_pSplit, rd_pPart, rd_stO, rd_pCutS, rd_solB, rd_pIn1, rd_pNotIn1, rd_pIn2, rd_pIn3, rd_pNotIn2, rd_pNotIn3, rd_pBls, rd_pJoin2, rd_at0, rd_at1, rd_at2, rd_at3, rd_atL, rd_ixL, rd_pRepr, rd_pGt2, rd_pLt2, rd_pListU1, rd_pListU2, rd_pListU3, rd_pListU4, rd_pSindex, rd_pStarts, rd_f1, rd_pSort, rd_pSortD, rd_oF, rd_qF, rd_fCB, rd_cat, rd_rep, rd_rev, rd_isB, rd_notB, rd_ixA1, rd_ixA2, rd_ixA3, rd_ixA4, rd_ixA5, rd_treS1, rd_treS2, rd_setT1, rd_setT2, rd_slT1, rd_slT2, rd_slT3, rd_pListF]
    unfold Two.right at h
    dsimp only at h
    by_cases h1 : i = a.length
    · rw [if_pos (by omega)]
      rw [decide_eq_true (by omega), Bool.true_and] at h
      exact h
    · rw [if_neg (by omega)]
      rw [decide_eq_false (by omega), Bool.false_and] at h
      exact h
theorem pp_law_leads : ∀ as Q X, ps_law_leads as Q X → p_law_leads (ends 3 Q) (as ++ nils (6 - as.length)) := by
  rintro as Q X ⟨⟨a, b, d⟩, rfl, hk, ss, hd, hl, h⟩
  dsimp only at hk hd h
  subst hd
  have e2 := big
  have la := hk.1
  have lb := hk.2.1
  dsimp only at la lb
  simp only [p_law_leads, stD, sSeq, sSet, sIf, sRet, sRetN, sNext, sBreak, sCont, sDrop, sNever, sAsg, sPar, sAug, sApp, sExt, sSetI, sForI, sWhile, sMid, sTry, sRaise, qVar, qC, qOp, qUn, qB, qAnd, qOr, qNot, qAndV, qOrV, qNotV, qIf, qNil, qCons, qCB, qTup, qLst, qCut, qPart, qNo, qM1, qM0, qCall, qChain, qXf, eQ, eVar, eC, eOp, eUn, eIf, eNil, eCons, eCB, eTup, eLst, eO, eCut, eM1, eM0, ePop, eIxV, eAnd, eOr, eNot, eAndV, eOrV, eNotV, eChain, eCutE, eNo, ePart, oSu, iS, tB', tQ, tYes', oE, oPlus, oRep, oTre, oNew, oCompT, iR3, sPut, plVar, plIx, sIns, ePopAt, eRev, oLst, oMove, oIf, oCall, oSt, oComp, iL, iT, iR1, iR2, gN, gT, gsNil, gsCons, cNil, cVal, cRef, free_0, free_succ, ends, outs, nils, resolve, putBack, allRef, refs, wipeE, pIsN, pNotN, pEq, pNe, eqOk_ii, eqOk_ss, eqOk_bb, eqOk_ni, eqOk_in, frS_frz, frS_own, frS_nil, List.replicate, List.getElem?_cons_zero, List.getElem?_cons_succ, List.set_cons_zero, List.set_cons_succ, List.cons_append, List.nil_append, List.length_cons, List.length_nil, List.take_succ_cons, List.take_zero, List.map_cons, List.map_nil, true_and, and_true, D.int.injEq, D.str.injEq, D.lst.injEq, decide_eq_true_eq, ite_true, ite_false, if_true, if_false, reduceIte, Bool.false_eq_true, false_and, and_false, Bool.not_true, Bool.not_false, Option.some.injEq, exists_eq_left', exists_eq_left, exists_and_left, List.nodup_cons, List.nodup_nil, List.not_mem_nil, not_false_eq_true, List.mem_cons, or_false, false_or, forall_eq, forall_eq_or_imp, Slot.own.injEq, Slot.par.injEq, Slot.frz.injEq, reduceCtorEq, exists_eq', exists_eq, exists_false, decide_true, decide_false, or_self, false_implies, implies_true, forall_const, eq_self, rd_lkL1, rd_lkL2, rd_lkL3, rd_lkE1, rd_lkE2, rd_thE1, rd_thE2, rd_lkF1, rd_lkX1, rd_lkX2, rd_lkX3, rd_mvS1, rd_mvS2, rd_mvE1, rd_mvE2, rd_lsO1, rd_lsO2, rd_tpO1, rd_sol1, rd_sol2, rd_sol3, rd_sol4, rd_sol5, rd_sol6, rd_sol7, rd_flat1, rd_flat2, rd_flat3, rd_flat4, rd_flat5, rd_asD1, rd_asD2, rd_asQ1, rd_asQ2, rd_asB, rd_asI, rd_p1, rd_p2, rd_pI0, rd_pI2, rd_pU, rd_pAdd1, rd_pAdd2, rd_pAdd3, rd_pAdd4, rd_pMul1, rd_pMul2, rd_pMul3, rd_pLen1, rd_pLen2, rd_pLen3, rd_pInt1, rd_pAbs, rd_pList1, rd_pList2, rd_pList3, rd_pCut1, rd_pCut2, rd_pCut3, rd_non1, rd_non2, rd_non3, rd_non4, rd_non5, rd_non6, rd_isStr, rd_pIx1, rd_pIx2, rd_pIx3, rd_pJoin1, rd_upS1, rd_upS2, rd_out1, rd_out2, rd_out3, rd_out4, rd_asL1, rd_asL2, rd_putL1, rd_putL2, rd_lkT1, rd_lkT2, rd_lkT3, rd_thT, rd_mvT1, rd_mvT2, rd_asDT, rd_asQT, rd_upT1, rd_upT2, rd_outT1, rd_outT2, rd_ref1, rd_ref2, rd_ref3, rd_ref4, rd_flat6, rd_flats0, rd_flats1, rd_er1, rd_er2, rd_er3, rd_er4, rd_ers0, rd_ers1, rd_ersL, rd_stA, rd_isi1, rd_isi2, rd_isi3, rd_isi4, rd_isX, rd_draw, rd_take, rd_pLt, rd_pLe, rd_pGt, rd_pGe, rd_pTuple1, rd_pTuple2, rd_pStr1, rd_pStr2, rd_pInt, rd_pIntS, rd_pIntB, rd_pOrd, rd_pMax, rd_pSplit, rd_pPart, rd_stO, rd_pCutS, rd_solB, rd_pIn1, rd_pNotIn1, rd_pIn2, rd_pIn3, rd_pNotIn2, rd_pNotIn3, rd_pBls, rd_pJoin2, rd_at0, rd_at1, rd_at2, rd_at3, rd_atL, rd_ixL, rd_pRepr, rd_pGt2, rd_pLt2, rd_pListU1, rd_pListU2, rd_pListU3, rd_pListU4, rd_pSindex, rd_pStarts, rd_f1, rd_pSort, rd_pSortD, rd_oF, rd_qF, rd_fCB, rd_cat, rd_rep, rd_rev, rd_isB, rd_notB, rd_ixA1, rd_ixA2, rd_ixA3, rd_ixA4, rd_ixA5, rd_treS1, rd_treS2, rd_setT1, rd_setT2, rd_slT1, rd_slT2, rd_slT3, rd_pListF]
  refine ⟨by omega, I_sr ⟨a, b⟩ ss, ⟨0, 0, .nil, rfl, rfl, by omega, by omega, rfl⟩, ?_⟩
  rintro k env ⟨i, j, x5, rfl, hr, hi, hj, f5⟩
  dsimp only at hi hj
  refine ⟨fun d hd => ?_, fun hi2 => ?_⟩
  · rw [List.getElem?_map] at hd
    cases hs : ss[k]? with
    | none => rw [hs] at hd; cases hd
    | some s =>
    rw [hs] at hd
    cases hd
    have hdr : ss.drop k = s :: ss.drop (k + 1) := by
      obtain ⟨hk1, hk2⟩ := List.getElem?_eq_some_iff.mp hs
      rw [List.drop_eq_getElem_cons hk1, hk2]
    rw [hdr] at hr
    have e1 : ((i : Int) + 1) = ((i + 1 : Nat) : Int) := by omega
    have e3 : ((j : Int) + 1) = ((j + 1 : Nat) : Int) := by omega
    have bad : Two.right ⟨a, b⟩ 0 0 ss = false → Q (.frz (.bl false)) [.nil, .nil, .nil] := fun z => by rw [z] at h; exact h
    have last3 : ∀ (u v w : D), atI [u, v, w] (-1) = some w := fun u v w => rfl
    have last2 : ∀ (u v : D), atI [u, v] (-1) = some v := fun u v => rfl
    have k1 : inOk (D.str (Str.ofString "keep")) [D.str (Str.ofString "keep"), D.str (Str.ofString "cut")] = true := by decide +kernel
    have k2 : inOk (D.str (Str.ofString "keep")) [D.str (Str.ofString "keep"), D.str (Str.ofString "put")] = true := by decide +kernel
    have k3 : inOk (D.str (Str.ofString "cut")) [D.str (Str.ofString "keep"), D.str (Str.ofString "cut")] = true := by decide +kernel
    have k4 : inOk (D.str (Str.ofString "cut")) [D.str (Str.ofString "keep"), D.str (Str.ofString "put")] = true := by decide +kernel
    have k5 : inOk (D.str (Str.ofString "put")) [D.str (Str.ofString "keep"), D.str (Str.ofString "cut")] = true := by decide +kernel
    have k6 : inOk (D.str (Str.ofString "put")) [D.str (Str.ofString "keep"), D.str (Str.ofString "put")] = true := by decide +kernel
    cases s with
    | keep x y =>
      simp only [f5, St.d, k1, k2, last3, ofString_inj, String.reduceEq, or_true, true_or, sSeq, sSet, sIf, sRet, sRetN, sNext, sBreak, sCont, sDrop, sNever, sAsg, sPar, sAug, sApp, sExt, sSetI, sForI, sWhile, sMid, sTry, sRaise, qVar, qC, qOp, qUn, qB, qAnd, qOr, qNot, qAndV, qOrV, qNotV, qIf, qNil, qCons, qCB, qTup, qLst, qCut, qPart, qNo, qM1, qM0, qCall, qChain, qXf, eQ, eVar, eC, eOp, eUn, eIf, eNil, eCons, eCB, eTup, eLst, eO, eCut, eM1, eM0, ePop, eIxV, eAnd, eOr, eNot, eAndV, eOrV, eNotV, eChain, eCutE, eNo, ePart, oSu, iS, tB', tQ, tYes', oE, oPlus, oRep, oTre, oNew, oCompT, iR3, sPut, plVar, plIx, sIns, ePopAt, eRev, oLst, oMove, oIf, oCall, oSt, oComp, iL, iT, iR1, iR2, gN, gT, gsNil, gsCons, cNil, cVal, cRef, free_0, free_succ, ends, outs, nils, resolve, putBack, allRef, refs, wipeE, pIsN, pNotN, pEq, pNe, eqOk_ii, eqOk_ss, eqOk_bb, eqOk_ni, eqOk_in, frS_frz, frS_own, frS_nil, List.replicate, List.getElem?_cons_zero, List.getElem?_cons_succ, List.set_cons_zero, List.set_cons_succ, List.cons_append, List.nil_append, List.length_cons, List.length_nil, List.take_succ_cons, List.take_zero, List.map_cons, List.map_nil, true_and, and_true, D.int.injEq, D.str.injEq, D.lst.injEq, decide_eq_true_eq, ite_true, ite_false, if_true, if_false, reduceIte, Bool.false_eq_true, false_and, and_false, Bool.not_true, Bool.not_false, Option.some.injEq, exists_eq_left', exists_eq_left, exists_and_left, List.nodup_cons, List.nodup_nil, List.not_mem_nil, not_false_eq_true, List.mem_cons, or_false, false_or, forall_eq, forall_eq_or_imp, Slot.own.injEq, Slot.par.injEq, Slot.frz.injEq, reduceCtorEq, exists_eq', exists_eq, exists_false, decide_true, decide_false, or_self, false_implies, implies_true, forall_const, eq_self, rd_lkL1, rd_lkL2, rd_lkL3, rd_lkE1, rd_lkE2, rd_thE1, rd_thE2, rd_lkF1, rd_lkX1, rd_lkX2, rd_lkX3, rd_mvS1, rd_mvS2, rd_mvE1, rd_mvE2, rd_lsO1, rd_lsO2, rd_tpO1, rd_sol1, rd_sol2, rd_sol3, rd_sol4, rd_sol5, rd_sol6, rd_sol7, rd_flat1, rd_flat2, rd_flat3, rd_flat4, rd_flat5, rd_asD1, rd_asD2, rd_asQ1, rd_asQ2, rd_asB, rd_asI, rd_p1, rd_p2, rd_pI0, rd_pI2, rd_pU, rd_pAdd1, rd_pAdd2, rd_pAdd3, rd_pAdd4, rd_pMul1, rd_pMul2, rd_pMul3, rd_pLen1, rd_pLen2, rd_pLen3, rd_pInt1, rd_pAbs, rd_pList1, rd_pList2, rd_pList3, rd_pCut1, rd_pCut2, rd_pCut3, rd_non1, rd_non2, rd_non3, rd_non4, rd_non5, rd_non6, rd_isStr, rd_pIx1, rd_pIx2, rd_pIx3, rd_pJoin1, rd_upS1, rd_upS2, rd_out1, rd_out2, rd_out3, rd_out4, rd_asL1, rd_asL2, rd_putL1, rd_putL2, rd_lkT1, rd_lkT2, rd_lkT3, rd_thT, rd_mvT1, rd_mvT2, rd_asDT, rd_asQT, rd_upT1, rd_upT2, rd_outT1, rd_outT2, rd_ref1, rd_ref2, rd_ref3, rd_ref4, rd_flat6, rd_flats0, rd_flats1, rd_er1, rd_er2, rd_er3, rd_er4, rd_ers0, rd_ers1, rd_ersL, rd_stA, rd_isi1, rd_isi2, rd_isi3, rd_isi4, rd_isX, rd_draw, rd_take, rd_pLt, rd_pLe, rd_pGt, rd_pGe, rd_pTuple1, rd_pTuple2, rd_pStr1, rd_pStr2, rd_pInt, rd_pIntS, rd_pIntB, rd_pOrd, rd_pMax, rd_pSplit, rd_pPart, rd_stO, rd_pCutS, rd_solB, rd_pIn1, rd_pNotIn1, rd_pIn2, rd_pIn3, rd_pNotIn2, rd_pNotIn3, rd_pBls, rd_pJoin2, rd_at0, rd_at1, rd_at2, rd_at3, rd_atL, rd_ixL, rd_pRepr, rd_pGt2, rd_pLt2, rd_pListU1, rd_pListU2, rd_pListU3, rd_pListU4, rd_pSindex, rd_pStarts, rd_f1, rd_pSort, rd_pSortD, rd_oF, rd_qF, rd_fCB, rd_cat, rd_rep, rd_rev, rd_isB, rd_notB, rd_ixA1, rd_ixA2, rd_ixA3, rd_ixA4, rd_ixA5, rd_treS1, rd_treS2, rd_setT1, rd_setT2, rd_slT1, rd_slT2, rd_slT3, rd_pListF]
      rw [Two.right] at hr
      refine ⟨by omega, ?_⟩
      by_cases hx : x = i
      · subst hx
        rw [if_neg (by simp)]
        by_cases hia : i < a.length
        · rw [if_neg (by omega)]
          refine ⟨by omega, ?_⟩
          by_cases hy : y = j
          · subst hy
            rw [if_neg (by simp)]
            by_cases hjb : j < b.length
            · rw [if_neg (by omega)]
              have ga := Pu.atI_nat (List.getElem?_eq_getElem hia)
              have gb := Pu.atI_nat (List.getElem?_eq_getElem hjb)
              have ia := hk.2.2.1 _ (List.getElem_mem hia)
              have ib := hk.2.2.2 _ (List.getElem_mem hjb)
              dsimp only at hr ia ib
              rw [Int.toNat_natCast, Int.toNat_natCast, List.getElem?_eq_getElem hia, List.getElem?_eq_getElem hjb] at hr
              refine ⟨_, ga, ?_⟩
              by_cases he : a[i] = b[j]
              · have hn : isNone a[i] = false := by
                  rw [he]
                  obtain ⟨t, ht, _⟩ := ib
                  rw [ht]
                  rfl
                rw [hn]
                rw [if_neg (by simp)]
                refine ⟨_, ga, _, gb, eqOk_it ia ib, ?_⟩
                rw [if_neg (by simp [he])]
                rw [decide_eq_true ⟨rfl, rfl, by omega, by omega, by rw [he]⟩, Bool.true_and, e1, e3] at hr
                rw [e1, e3]
                exact ⟨i + 1, j + 1, _, rfl, hr, by dsimp only; omega, by dsimp only; omega, rfl⟩
              · have bd := bad (by rw [hr, decide_eq_false (fun z => he (Option.some.inj z.2.2.2.2))]; rfl)
                by_cases hn : isNone a[i] = true
                · rw [if_pos hn]
                  exact bd
                · rw [if_neg hn]
                  refine ⟨_, ga, _, gb, eqOk_it ia ib, ?_⟩
                  rw [if_pos (by simp [he])]
                  exact bd
            · rw [if_pos (by omega)]
              exact bad (by rw [hr, decide_eq_false (fun z => hjb (by have := z.2.2.2.1; dsimp only at this; omega))]; rfl)
          · rw [if_pos (by simpa using hy)]
            exact bad (by rw [hr, decide_eq_false (fun z => hy z.2.1)]; rfl)
        · rw [if_pos (by omega)]
          exact bad (by rw [hr, decide_eq_false (fun z => hia (by have := z.2.2.1; dsimp only at this; omega))]; rfl)
      · rw [if_pos (by simpa using hx)]
        exact bad (by rw [hr, decide_eq_false (fun z => hx z.1)]; rfl)
    | cut x =>
      simp only [f5, St.d, k3, k4, last2, ofString_inj, String.reduceEq, or_true, true_or, sSeq, sSet, sIf, sRet, sRetN, sNext, sBreak, sCont, sDrop, sNever, sAsg, sPar, sAug, sApp, sExt, sSetI, sForI, sWhile, sMid, sTry, sRaise, qVar, qC, qOp, qUn, qB, qAnd, qOr, qNot, qAndV, qOrV, qNotV, qIf, qNil, qCons, qCB, qTup, qLst, qCut, qPart, qNo, qM1, qM0, qCall, qChain, qXf, eQ, eVar, eC, eOp, eUn, eIf, eNil, eCons, eCB, eTup, eLst, eO, eCut, eM1, eM0, ePop, eIxV, eAnd, eOr, eNot, eAndV, eOrV, eNotV, eChain, eCutE, eNo, ePart, oSu, iS, tB', tQ, tYes', oE, oPlus, oRep, oTre, oNew, oCompT, iR3, sPut, plVar, plIx, sIns, ePopAt, eRev, oLst, oMove, oIf, oCall, oSt, oComp, iL, iT, iR1, iR2, gN, gT, gsNil, gsCons, cNil, cVal, cRef, free_0, free_succ, ends, outs, nils, resolve, putBack, allRef, refs, wipeE, pIsN, pNotN, pEq, pNe, eqOk_ii, eqOk_ss, eqOk_bb, eqOk_ni, eqOk_in, frS_frz, frS_own, frS_nil, List.replicate, List.getElem?_cons_zero, List.getElem?_cons_succ, List.set_cons_zero, List.set_cons_succ, List.cons_append, List.nil_append, List.length_cons, List.length_nil, List.take_succ_cons, List.take_zero, List.map_cons, List.map_nil, true_and, and_true, D.int.injEq, D.str.injEq, D.lst.injEq, decide_eq_true_eq, ite_true, ite_false, if_true, if_false, reduceIte, Bool.false_eq_true, false_and, and_false, Bool.not_true, Bool.not_false, Option.some.injEq, exists_eq_left', exists_eq_left, exists_and_left, List.nodup_cons, List.nodup_nil, List.not_mem_nil, not_false_eq_true, List.mem_cons, or_false, false_or, forall_eq, forall_eq_or_imp, Slot.own.injEq, Slot.par.injEq, Slot.frz.injEq, reduceCtorEq, exists_eq', exists_eq, exists_false, decide_true, decide_false, or_self, false_implies, implies_true, forall_const, eq_self, rd_lkL1, rd_lkL2, rd_lkL3, rd_lkE1, rd_lkE2, rd_thE1, rd_thE2, rd_lkF1, rd_lkX1, rd_lkX2, rd_lkX3, rd_mvS1, rd_mvS2, rd_mvE1, rd_mvE2, rd_lsO1, rd_lsO2, rd_tpO1, rd_sol1, rd_sol2, rd_sol3, rd_sol4, rd_sol5, rd_sol6, rd_sol7, rd_flat1, rd_flat2, rd_flat3, rd_flat4, rd_flat5, rd_asD1, rd_asD2, rd_asQ1, rd_asQ2, rd_asB, rd_asI, rd_p1, rd_p2, rd_pI0, rd_pI2, rd_pU, rd_pAdd1, rd_pAdd2, rd_pAdd3, rd_pAdd4, rd_pMul1, rd_pMul2, rd_pMul3, rd_pLen1, rd_pLen2, rd_pLen3, rd_pInt1, rd_pAbs, rd_pList1, rd_pList2, rd_pList3, rd_pCut1, rd_pCut2, rd_pCut3, rd_non1, rd_non2, rd_non3, rd_non4, rd_non5, rd_non6, rd_isStr, rd_pIx1, rd_pIx2, rd_pIx3, rd_pJoin1, rd_upS1, rd_upS2, rd_out1, rd_out2, rd_out3, rd_out4, rd_asL1, rd_asL2, rd_putL1, rd_putL2, rd_lkT1, rd_lkT2, rd_lkT3, rd_thT, rd_mvT1, rd_mvT2, rd_asDT, rd_asQT, rd_upT1, rd_upT2, rd_outT1, rd_outT2, rd_ref1, rd_ref2, rd_ref3, rd_ref4, rd_flat6, rd_flats0, rd_flats1, rd_er1, rd_er2, rd_er3, rd_er4, rd_ers0, rd_ers1, rd_ersL, rd_stA, rd_isi1, rd_isi2, rd_isi3, rd_isi4, rd_isX, rd_draw, rd_take, rd_pLt, rd_pLe, rd_pGt, rd_pGe, rd_pTuple1, rd_pTuple2, rd_pStr1, rd_pStr2, rd_pInt, rd_pIntS, rd_pIntB, rd_pOrd, rd_pMax, rd_pSplit, rd_pPart, rd_stO, rd_pCutS, rd_solB, rd_pIn1, rd_pNotIn1, rd_pIn2, rd_pIn3, rd_pNotIn2, rd_pNotIn3, rd_pBls, rd_pJoin2, rd_at0, rd_at1, rd_at2, rd_at3, rd_atL, rd_ixL, rd_pRepr, rd_pGt2, rd_pLt2, rd_pListU1, rd_pListU2, rd_pListU3, rd_pListU4, rd_pSindex, rd_pStarts, rd_f1, rd_pSort, rd_pSortD, rd_oF, rd_qF, rd_fCB, rd_cat, rd_rep, rd_rev, rd_isB, rd_notB, rd_ixA1, rd_ixA2, rd_ixA3, rd_ixA4, rd_ixA5, rd_treS1, rd_treS2, rd_setT1, rd_setT2, rd_slT1, rd_slT2, rd_slT3, rd_pListF]
      rw [Two.right] at hr
      refine ⟨by omega, ?_⟩
      by_cases hxy : x = i
      · subst hxy
        rw [if_neg (by simp)]
        by_cases hia : i < a.length
        · rw [if_neg (by omega)]
          rw [decide_eq_true ⟨rfl, by dsimp only; omega⟩, Bool.true_and, e1] at hr
          rw [e1, Int.add_zero]
          exact ⟨by omega, i + 1, j, _, rfl, hr, by dsimp only; omega, by dsimp only; omega, rfl⟩
        · rw [if_pos (by omega)]
          exact bad (by rw [hr, decide_eq_false (fun z => hia (by have := z.2; dsimp only at this; omega))]; rfl)
      · rw [if_pos (by simpa using hxy)]
        exact bad (by rw [hr, decide_eq_false (fun z => hxy z.1)]; rfl)
    | put y =>
      simp only [f5, St.d, k5, k6, last2, ofString_inj, String.reduceEq, or_true, true_or, sSeq, sSet, sIf, sRet, sRetN, sNext, sBreak, sCont, sDrop, sNever, sAsg, sPar, sAug, sApp, sExt, sSetI, sForI, sWhile, sMid, sTry, sRaise, qVar, qC, qOp, qUn, qB, qAnd, qOr, qNot, qAndV, qOrV, qNotV, qIf, qNil, qCons, qCB, qTup, qLst, qCut, qPart, qNo, qM1, qM0, qCall, qChain, qXf, eQ, eVar, eC, eOp, eUn, eIf, eNil, eCons, eCB, eTup, eLst, eO, eCut, eM1, eM0, ePop, eIxV, eAnd, eOr, eNot, eAndV, eOrV, eNotV, eChain, eCutE, eNo, ePart, oSu, iS, tB', tQ, tYes', oE, oPlus, oRep, oTre, oNew, oCompT, iR3, sPut, plVar, plIx, sIns, ePopAt, eRev, oLst, oMove, oIf, oCall, oSt, oComp, iL, iT, iR1, iR2, gN, gT, gsNil, gsCons, cNil, cVal, cRef, free_0, free_succ, ends, outs, nils, resolve, putBack, allRef, refs, wipeE, pIsN, pNotN, pEq, pNe, eqOk_ii, eqOk_ss, eqOk_bb, eqOk_ni, eqOk_in, frS_frz, frS_own, frS_nil, List.replicate, List.getElem?_cons_zero, List.getElem?_cons_succ, List.set_cons_zero, List.set_cons_succ, List.cons_append, List.nil_append, List.length_cons, List.length_nil, List.take_succ_cons, List.take_zero, List.map_cons, List.map_nil, true_and, and_true, D.int.injEq, D.str.injEq, D.lst.injEq, decide_eq_true_eq, ite_true, ite_false, if_true, if_false, reduceIte, Bool.false_eq_true, false_and, and_false, Bool.not_true, Bool.not_false, Option.some.injEq, exists_eq_left', exists_eq_left, exists_and_left, List.nodup_cons, List.nodup_nil, List.not_mem_nil, not_false_eq_true, List.mem_cons, or_false, false_or, forall_eq, forall_eq_or_imp, Slot.own.injEq, Slot.par.injEq, Slot.frz.injEq, reduceCtorEq, exists_eq', exists_eq, exists_false, decide_true, decide_false, or_self, false_implies, implies_true, forall_const, eq_self, rd_lkL1, rd_lkL2, rd_lkL3, rd_lkE1, rd_lkE2, rd_thE1, rd_thE2, rd_lkF1, rd_lkX1, rd_lkX2, rd_lkX3, rd_mvS1, rd_mvS2, rd_mvE1, rd_mvE2, rd_lsO1, rd_lsO2, rd_tpO1, rd_sol1, rd_sol2, rd_sol3, rd_sol4, rd_sol5, rd_sol6, rd_sol7, rd_flat1, rd_flat2, rd_flat3, rd_flat4, rd_flat5, rd_asD1, rd_asD2, rd_asQ1, rd_asQ2, rd_asB, rd_asI, rd_p1, rd_p2, rd_pI0, rd_pI2, rd_pU, rd_pAdd1, rd_pAdd2, rd_pAdd3, rd_pAdd4, rd_pMul1, rd_pMul2, rd_pMul3, rd_pLen1, rd_pLen2, rd_pLen3, rd_pInt1, rd_pAbs, rd_pList1, rd_pList2, rd_pList3, rd_pCut1, rd_pCut2, rd_pCut3, rd_non1, rd_non2, rd_non3, rd_non4, rd_non5, rd_non6, rd_isStr, rd_pIx1, rd_pIx2, rd_pIx3, rd_pJoin1, rd_upS1, rd_upS2, rd_out1, rd_out2, rd_out3, rd_out4, rd_asL1, rd_asL2, rd_putL1, rd_putL2, rd_lkT1, rd_lkT2, rd_lkT3, rd_thT, rd_mvT1, rd_mvT2, rd_asDT, rd_asQT, rd_upT1, rd_upT2, rd_outT1, rd_outT2, rd_ref1, rd_ref2, rd_ref3, rd_ref4, rd_flat6, rd_flats0, rd_flats1, rd_er1, rd_er2, rd_er3, rd_er4, rd_ers0, rd_ers1, rd_ersL, rd_stA, rd_isi1, rd_isi2, rd_isi3, rd_isi4, rd_isX, rd_draw, rd_take, rd_pLt, rd_pLe, rd_pGt, rd_pGe, rd_pTuple1, rd_pTuple2, rd_pStr1, rd_pStr2, rd_pInt, rd_pIntS, rd_pIntB, rd_pOrd, rd_pMax, rd_pSplit, rd_pPart, rd_stO, rd_pCutS, rd_solB, rd_pIn1, rd_pNotIn1, rd_pIn2, rd_pIn3, rd_pNotIn2, rd_pNotIn3, rd_pBls, rd_pJoin2, rd_at0, rd_at1, rd_at2, rd_at3, rd_atL, rd_ixL, rd_pRepr, rd_pGt2, rd_pLt2, rd_pListU1, rd_pListU2, rd_pListU3, rd_pListU4, rd_pSindex, rd_pStarts, rd_f1, rd_pSort, rd_pSortD, rd_oF, rd_qF, rd_fCB, rd_cat, rd_rep, rd_rev, rd_isB, rd_notB, rd_ixA1, rd_ixA2, rd_ixA3, rd_ixA4, rd_ixA5, rd_treS1, rd_treS2, rd_setT1, rd_setT2, rd_slT1, rd_slT2, rd_slT3, rd_pListF]
      rw [Two.right] at hr
      refine ⟨by omega, by omega, ?_⟩
      by_cases hxy : y = j
      · subst hxy
        rw [if_neg (by simp)]
        by_cases hia : j < b.length
        · rw [if_neg (by omega)]
          rw [decide_eq_true ⟨rfl, by dsimp only; omega⟩, Bool.true_and, e3] at hr
          rw [e3, Int.add_zero]
          exact ⟨i, j + 1, _, rfl, hr, by dsimp only; omega, by dsimp only; omega, rfl⟩
        · rw [if_pos (by omega)]
          exact bad (by rw [hr, decide_eq_false (fun z => hia (by have := z.2; dsimp only at this; omega))]; rfl)
      · rw [if_pos (by simpa using hxy)]
        exact bad (by rw [hr, decide_eq_false (fun z => hxy z.1)]; rfl)
  · rw [List.length_map] at hi2
    subst hi2
    rw [List.drop_length] at hr
    rw [hr] at h
    simp only [f5, sSeq, sSet, sIf, sRet, sRetN, sNext, sBreak, sCont, sDrop, sNever, sAsg, sPar, sAug, sApp, sExt, sSetI, sForI, sWhile, sMid, sTry, sRaise, qVar, qC, qOp, qUn, qB, qAnd, qOr, qNot, qAndV, qOrV, qNotV, qIf, qNil, qCons, qCB, qTup, qLst, qCut, qPart, qNo, qM1, qM0, qCall, qChain, qXf, eQ, eVar, eC, eOp, eUn, eIf, eNil, eCons, eCB, eTup, eLst, eO, eCut, eM1, eM0, ePop, eIxV, eAnd, eOr, eNot, eAndV, eOrV, eNotV, eChain, eCutE, eNo, ePart, oSu, iS, tB', tQ, tYes', oE, oPlus, oRep, oTre, oNew, oCompT, iR3, sPut, plVar, plIx, sIns, ePopAt, eRev, oLst, oMove, oIf, oCall, oSt, oComp, iL, iT, iR1, iR2, gN, gT, gsNil, gsCons, cNil, cVal, cRef, free_0, free_succ, ends, outs, nils, resolve, putBack, allRef, refs, wipeE, pIsN, pNotN, pEq, pNe, eqOk_ii, eqOk_ss, eqOk_bb, eqOk_ni, eqOk_in, frS_frz, frS_own, frS_nil, List.replicate, List.getElem?_cons_zero, List.getElem?_cons_succ, List.set_cons_zero, List.set_cons_succ, List.cons_append, List.nil_append, List.length_cons, List.length_nil, List.take_succ_cons, List.take_zero, List.map_cons, List.map_nil, true_and, and_true, D.int.injEq, D.str.injEq, D.lst.injEq, decide_eq_true_eq, ite_true, ite_false, if_true, if_false, reduceIte, Bool.false_eq_true, false_and, and_false, Bool.not_true, Bool.not_false, Option.some.injEq, exists_eq_left', exists_eq_left, exists_and_left, List.nodup_cons, List.nodup_nil, List.not_mem_nil, not_false_eq_true, List.mem_cons, or_false, false_or, forall_eq, forall_eq_or_imp, Slot.own.injEq, Slot.par.injEq, Slot.frz.injEq, reduceCtorEq, exists_eq', exists_eq, exists_false, decide_true, decide_false, or_self, false_implies, implies_true, forall_const, eq_self, rd_lkL1, rd_lkL2, rd_lkL3, rd_lkE1, rd_lkE2, rd_thE1, rd_thE2, rd_lkF1, rd_lkX1, rd_lkX2, rd_lkX3, rd_mvS1, rd_mvS2, rd_mvE1, rd_mvE2, rd_lsO1, rd_lsO2, rd_tpO1, rd_sol1, rd_sol2, rd_sol3, rd_sol4, rd_sol5, rd_sol6, rd_sol7, rd_flat1, rd_flat2, rd_flat3, rd_flat4, rd_flat5, rd_asD1, rd_asD2, rd_asQ1, rd_asQ2, rd_asB, rd_asI, rd_p1, rd_p2, rd_pI0, rd_pI2, rd_pU, rd_pAdd1, rd_pAdd2, rd_pAdd3, rd_pAdd4, rd_pMul1, rd_pMul2, rd_pMul3, rd_pLen1, rd_pLen2, rd_pLen3, rd_pInt1, rd_pAbs, rd_pList1, rd_pList2, rd_pList3, rd_pCut1, rd_pCut2, rd_pCut3, rd_non1, rd_non2, rd_non3, rd_non4, rd_non5, rd_non6, rd_isStr, rd_pIx1, rd_pIx2, rd_pIx3, rd_pJoin1, rd_upS1, rd_upS2, rd_out1, rd_out2, rd_out3, rd_out4, rd_asL1, rd_asL2, rd_putL1, rd_putL2, rd_lkT1, rd_lkT2, rd_lkT3, rd_thT, rd_mvT1, rd_mvT2, rd_asDT, rd_asQT, rd_upT1, rd_upT2, rd_outT1, rd_outT2, rd_ref1, rd_ref2, rd_ref3, rd_ref4, rd_flat6, rd_flats0, rd_flats1, rd_er1, rd_er2, rd_er3, rd_er4, rd_ers0, rd_ers1, rd_ersL, rd_stA, rd_isi1, rd_isi2, rd_isi3, rd_isi4, rd_isX, rd_draw, rd_take, rd_pLt, rd_pLe, rd_pGt, rd_pGe, rd_pTuple1, rd_pTuple2, rd_pStr1, rd_pStr2, rd_pInt, rd_pIntS, rd_pIntB, rd_pOrd, rd_pMax, rd_pSplit, rd_pPart, rd_stO, rd_pCutS, rd_solB, rd_pIn1, rd_pNotIn1, rd_pIn2, rd_pIn3, rd_pNotIn2, rd_pNotIn3, rd_pBls, rd_pJoin2, rd_at0, rd_at1, rd_at2, rd_at3, rd_atL, rd_ixL, rd_pRepr, rd_pGt2, rd_pLt2, rd_pListU1, rd_pListU2, rd_pListU3, rd_pListU4, rd_pSindex, rd_pStarts, rd_f1, rd_pSort, rd_pSortD, rd_oF, rd_qF, rd_fCB, rd_cat, rd_rep, rd_rev, rd_isB, rd_notB, rd_ixA1, rd_ixA2, rd_ixA3, rd_ixA4, rd_ixA5, rd_treS1, rd_treS2, rd_setT1, rd_setT2, rd_slT1, rd_slT2, rd_slT3, rd_pListF]
    unfold Two.right at h
    dsimp only at h
    by_cases h1 : i = a.length
    · rw [if_pos (by omega)]
      rw [decide_eq_true (by omega), Bool.true_and] at h
      exact h
    · rw [if_neg (by omega)]
      rw [decide_eq_false (by omega), Bool.false_and] at h
      exact h
/-! ### all of them in a dict -/
theorem posD_app {ks : List D} {k k' : D} : posD (ks ++ [k]) k' = (posD ks k').orElse fun _ => if k = k' then some ks.length else none := by
  induction ks with
  | nil =>
    by_cases e : k = k'
    · subst e; simp [posD]
    · simp [posD, e]
  | cons x xs ih =>
    rw [List.cons_append, posD, posD, ih]
    by_cases e : x = k'
    · subst e; simp
    · simp only [e, if_false, List.length_cons]
      cases posD xs k' with
      | some n => simp
      | none =>
        by_cases e2 : k = k'
        · simp [e2]
        · simp [e2]
theorem atV_put {α : Type} {ks : List D} {vs : List α} {k k' : D} {v : α} (hl : vs.length = ks.length) : atVv (putKs ks k) (putVv ks k vs v) k' = if k' = k then some v else atVv ks vs k' := by
  unfold putKs putVv atVv
  cases h : posD ks k with
  | some n =>
    have hn := posD_get h
    have hlt := (List.getElem?_eq_some_iff.mp hn).1
    by_cases e : k' = k
    · subst e
      simp only [h, if_true]
      rw [List.getElem?_set_self (by omega)]
    · simp only [e, if_false]
      cases h2 : posD ks k' with
      | none => rfl
      | some n' =>
        have hn' := posD_get h2
        simp only
        rw [List.getElem?_set_ne]
        intro z
        subst z
        rw [hn] at hn'
        exact e (Option.some.inj hn').symm
  | none =>
    simp only [posD_app]
    by_cases e : k' = k
    · subst e
      simp only [h, if_true, Option.orElse]
      rw [← hl, List.getElem?_append_right (by omega)]
      simp
    · simp only [e, if_false]
      cases h2 : posD ks k' with
      | none => simp [show ¬ k = k' from fun z => e z.symm]
      | some n' =>
        have hlt := (List.getElem?_eq_some_iff.mp (posD_get h2)).1
        simp only [Option.orElse]
        rw [List.getElem?_append_left (by omega)]
def isL (k : D) : Prop := ∃ a b : Nat, k = keyL a b
theorem putVv_map {ks : List D} {k : D} {vs : List D} {d : D} : putVv ks k (vs.map T.leaf) (T.leaf d) = (putVv ks k vs d).map T.leaf := by
  unfold putVv
  cases posD ks k with
  | some n => simp only [List.map_set]
  | none => simp only [List.map_append, List.map_cons, List.map_nil]
theorem keyL_inj {i j i' j' : Nat} : keyL i j = keyL i' j' ↔ i = i' ∧ j = j' := by
  simp only [keyL, D.tup.injEq, List.cons.injEq, D.int.injEq, and_true]
  omega
theorem same_key {ks : List D} (h : ∀ q ∈ ks, isL q) (i j : Nat) : sameK (keyL i j) ks = true := by
  unfold sameK
  rw [List.all_eq_true]
  intro q hq
  obtain ⟨a, b, rfl⟩ := h q hq
  rfl
theorem k_ok {ks : List D} (h : ∀ q ∈ ks, isL q) (i j : Nat) : kOk ks (keyL i j) := ⟨rfl, same_key h i j⟩
theorem putKs_len {ks : List D} {k : D} : (putKs ks k).length ≤ ks.length + 1 := by
  unfold putKs
  cases posD ks k <;> simp
theorem putKs_L {ks : List D} (h : ∀ q ∈ ks, isL q) (i j : Nat) : ∀ q ∈ putKs ks (keyL i j), isL q := by
  intro q hq
  unfold putKs at hq
  cases hp : posD ks (keyL i j) with
  | some n => rw [hp] at hq; exact h q hq
  | none =>
    rw [hp] at hq
    rcases List.mem_append.mp hq with hq | hq
    · exact h q hq
    · rw [List.mem_singleton] at hq; exact ⟨i, j, hq⟩
theorem put_len {ks vs : List D} {k v : D} (h : vs.length = ks.length) : (putVv ks k vs v).length = (putKs ks k).length := by
  unfold putVv putKs
  cases posD ks k <;> simp [h]
def I_ms (a b : List D) (k : Nat) (env : Pu.Env) : Prop := ∃ (ks vs : List D) (x3 x4 x5 : Pu.Slot), env = [.frz (.lst a), .frz (.lst b), .tre (.dct none ks (vs.map .leaf)), x3, x4, x5] ∧ vs.length = ks.length ∧ ks.length ≤ k * (b.length + 1) ∧ (∀ q ∈ ks, isL q) ∧
  (∀ i j, a.length + 1 - k ≤ i → i ≤ a.length → j ≤ b.length → atVv ks vs (keyL i j) = some (.int (Two.l ⟨a, b⟩ i j))) ∧ frS x3 = true ∧ frS x4 = true ∧ frS x5 = true
def J_ms (a b : List D) (i k0 k : Nat) (env : Pu.Env) : Prop := ∃ (ks vs : List D) (x4 x5 : Pu.Slot), env = [.frz (.lst a), .frz (.lst b), .tre (.dct none ks (vs.map .leaf)), .frz (.int i), x4, x5] ∧ vs.length = ks.length ∧ ks.length ≤ k0 * (b.length + 1) + k ∧ (∀ q ∈ ks, isL q) ∧
  (∀ i' j, i + 1 ≤ i' → i' ≤ a.length → j ≤ b.length → atVv ks vs (keyL i' j) = some (.int (Two.l ⟨a, b⟩ i' j))) ∧ (∀ j, b.length + 1 - k ≤ j → j ≤ b.length → atVv ks vs (keyL i j) = some (.int (Two.l ⟨a, b⟩ i j))) ∧ frS x4 = true ∧ frS x5 = true
theorem pp_law_most : ∀ as Q X, ps_law_most as Q X → p_law_most (ends 2 Q) (as ++ nils (6 - as.length)) := by
  rintro as Q X ⟨⟨a, b⟩, rfl, hk, h⟩
  dsimp only at hk h
  have e2 := big
  have la := hk.1
  have lb := hk.2.1
  dsimp only at la lb
  simp only [p_law_most, sSeq, sSet, sIf, sRet, sRetN, sNext, sBreak, sCont, sDrop, sNever, sAsg, sPar, sAug, sApp, sExt, sSetI, sForI, sWhile, sMid, sTry, sRaise, qVar, qC, qOp, qUn, qB, qAnd, qOr, qNot, qAndV, qOrV, qNotV, qIf, qNil, qCons, qCB, qTup, qLst, qCut, qPart, qNo, qM1, qM0, qCall, qChain, qXf, eQ, eVar, eC, eOp, eUn, eIf, eNil, eCons, eCB, eTup, eLst, eO, eCut, eM1, eM0, ePop, eIxV, eAnd, eOr, eNot, eAndV, eOrV, eNotV, eChain, eCutE, eNo, ePart, oSu, iS, tB', tQ, tYes', oE, oPlus, oRep, oTre, oNew, oCompT, iR3, sPut, plVar, plIx, sIns, ePopAt, eRev, oLst, oMove, oIf, oCall, oSt, oComp, iL, iT, iR1, iR2, gN, gT, gsNil, gsCons, cNil, cVal, cRef, free_0, free_succ, ends, outs, nils, resolve, putBack, allRef, refs, wipeE, pIsN, pNotN, pEq, pNe, eqOk_ii, eqOk_ss, eqOk_bb, eqOk_ni, eqOk_in, frS_frz, frS_own, frS_nil, List.replicate, List.getElem?_cons_zero, List.getElem?_cons_succ, List.set_cons_zero, List.set_cons_succ, List.cons_append, List.nil_append, List.length_cons, List.length_nil, List.take_succ_cons, List.take_zero, List.map_cons, List.map_nil, true_and, and_true, D.int.injEq, D.str.injEq, D.lst.injEq, decide_eq_true_eq, ite_true, ite_false, if_true, if_false, reduceIte, Bool.false_eq_true, false_and, and_false, Bool.not_true, Bool.not_false, Option.some.injEq, exists_eq_left', exists_eq_left, exists_and_left, List.nodup_cons, List.nodup_nil, List.not_mem_nil, not_false_eq_true, List.mem_cons, or_false, false_or, forall_eq, forall_eq_or_imp, Slot.own.injEq, Slot.par.injEq, Slot.frz.injEq, reduceCtorEq, exists_eq', exists_eq, exists_false, decide_true, decide_false, or_self, false_implies, implies_true, forall_const, eq_self, rd_lkL1, rd_lkL2, rd_lkL3, rd_lkE1, rd_lkE2, rd_thE1, rd_thE2, rd_lkF1, rd_lkX1, rd_lkX2, rd_lkX3, rd_mvS1, rd_mvS2, rd_mvE1, rd_mvE2, rd_lsO1, rd_lsO2, rd_tpO1, rd_sol1, rd_sol2, rd_sol3, rd_sol4, rd_sol5, rd_sol6, rd_sol7, rd_flat1, rd_flat2, rd_flat3, rd_flat4, rd_flat5, rd_asD1, rd_asD2, rd_asQ1, rd_asQ2, rd_asB, rd_asI, rd_p1, rd_p2, rd_pI0, rd_pI2, rd_pU, rd_pAdd1, rd_pAdd2, rd_pAdd3, rd_pAdd4, rd_pMul1, rd_pMul2, rd_pMul3, rd_pLen1, rd_pLen2, rd_pLen3, rd_pInt1, rd_pAbs, rd_pList1, rd_pList2, rd_pList3, rd_pCut1, rd_pCut2, rd_pCut3, rd_non1, rd_non2, rd_non3, rd_non4, rd_non5, rd_non6, rd_isStr, rd_pIx1, rd_pIx2, rd_pIx3, rd_pJoin1, rd_upS1, rd_upS2, rd_out1, rd_out2, rd_out3, rd_out4, rd_asL1, rd_asL2, rd_putL1, rd_putL2, rd_lkT1, rd_lkT2, rd_lkT3, rd_thT, rd_mvT1, rd_mvT2, rd_asDT, rd_asQT, rd_upT1, rd_upT2, rd_outT1, rd_outT2, rd_ref1, rd_ref2, rd_ref3, rd_ref4, rd_flat6, rd_flats0, rd_flats1, rd_er1, rd_er2, rd_er3, rd_er4, rd_ers0, rd_ers1, rd_ersL, rd_stA, rd_isi1, rd_isi2, rd_isi3, rd_isi4, rd_isX, rd_draw, rd_take, rd_pLt, rd_pLe, rd_pGt, rd_pGe, rd_pTuple1, rd_pTuple2, rd_pStr1, rd_pStr2, rd_pInt, rd_pIntS, rd_pIntB, rd_pOrd, rd_pMax, rd_pSplit, rd_pPart, rd_stO, rd_pCutS, rd_solB, rd_pIn1, rd_pNotIn1, rd_pIn2, rd_pIn3, rd_pNotIn2, rd_pNotIn3, rd_pBls, rd_pJoin2, rd_at0, rd_at1, rd_at2, rd_at3, rd_atL, rd_ixL, rd_pRepr, rd_pGt2, rd_pLt2, rd_pListU1, rd_pListU2, rd_pListU3, rd_pListU4, rd_pSindex, rd_pStarts, rd_f1, rd_pSort, rd_pSortD, rd_oF, rd_qF, rd_fCB, rd_cat, rd_rep, rd_rev, rd_isB, rd_notB, rd_ixA1, rd_ixA2, rd_ixA3, rd_ixA4, rd_ixA5, rd_treS1, rd_treS2, rd_setT1, rd_setT2, rd_slT1, rd_slT2, rd_slT3, rd_pListF]
  refine ⟨by omega, I_ms a b, ⟨[], [], .nil, .nil, .nil, rfl, rfl, by simp, by simp, fun i j h1 h2 h3 => by omega, rfl, rfl, rfl⟩, ?_⟩
  rintro k env ⟨ks, vs, x3, x4, x5, rfl, g0, g1, g2, g3, f3, f4, f5⟩
  refine ⟨fun d hd => ?_, fun hi => ?_⟩
  · obtain ⟨hi', _⟩ := List.getElem?_eq_some_iff.mp hd
    rw [rngD, List.length_map, List.length_range] at hi'
    rw [rngD, rng_get hi'] at hd
    cases hd
    obtain ⟨i, hi⟩ : ∃ i : Nat, ((a.length : Int) - (k : Int)) = i := ⟨a.length - k, by omega⟩
    rw [hi]
    have hia : i ≤ a.length := by omega
    have hki : a.length + 1 - k = i + 1 := by omega
    have hk0 : k ≤ 41 := by omega
    have hkb : k * (b.length + 1) ≤ 41 * 83 := Nat.mul_le_mul hk0 (by omega)
    simp only [f3, f4, f5, sSeq, sSet, sIf, sRet, sRetN, sNext, sBreak, sCont, sDrop, sNever, sAsg, sPar, sAug, sApp, sExt, sSetI, sForI, sWhile, sMid, sTry, sRaise, qVar, qC, qOp, qUn, qB, qAnd, qOr, qNot, qAndV, qOrV, qNotV, qIf, qNil, qCons, qCB, qTup, qLst, qCut, qPart, qNo, qM1, qM0, qCall, qChain, qXf, eQ, eVar, eC, eOp, eUn, eIf, eNil, eCons, eCB, eTup, eLst, eO, eCut, eM1, eM0, ePop, eIxV, eAnd, eOr, eNot, eAndV, eOrV, eNotV, eChain, eCutE, eNo, ePart, oSu, iS, tB', tQ, tYes', oE, oPlus, oRep, oTre, oNew, oCompT, iR3, sPut, plVar, plIx, sIns, ePopAt, eRev, oLst, oMove, oIf, oCall, oSt, oComp, iL, iT, iR1, iR2, gN, gT, gsNil, gsCons, cNil, cVal, cRef, free_0, free_succ, ends, outs, nils, resolve, putBack, allRef, refs, wipeE, pIsN, pNotN, pEq, pNe, eqOk_ii, eqOk_ss, eqOk_bb, eqOk_ni, eqOk_in, frS_frz, frS_own, frS_nil, List.replicate, List.getElem?_cons_zero, List.getElem?_cons_succ, List.set_cons_zero, List.set_cons_succ, List.cons_append, List.nil_append, List.length_cons, List.length_nil, List.take_succ_cons, List.take_zero, List.map_cons, List.map_nil, true_and, and_true, D.int.injEq, D.str.injEq, D.lst.injEq, decide_eq_true_eq, ite_true, ite_false, if_true, if_false, reduceIte, Bool.false_eq_true, false_and, and_false, Bool.not_true, Bool.not_false, Option.some.injEq, exists_eq_left', exists_eq_left, exists_and_left, List.nodup_cons, List.nodup_nil, List.not_mem_nil, not_false_eq_true, List.mem_cons, or_false, false_or, forall_eq, forall_eq_or_imp, Slot.own.injEq, Slot.par.injEq, Slot.frz.injEq, reduceCtorEq, exists_eq', exists_eq, exists_false, decide_true, decide_false, or_self, false_implies, implies_true, forall_const, eq_self, rd_lkL1, rd_lkL2, rd_lkL3, rd_lkE1, rd_lkE2, rd_thE1, rd_thE2, rd_lkF1, rd_lkX1, rd_lkX2, rd_lkX3, rd_mvS1, rd_mvS2, rd_mvE1, rd_mvE2, rd_lsO1, rd_lsO2, rd_tpO1, rd_sol1, rd_sol2, rd_sol3, rd_sol4, rd_sol5, rd_sol6, rd_sol7, rd_flat1, rd_flat2, rd_flat3, rd_flat4, rd_flat5, rd_asD1, rd_asD2, rd_asQ1, rd_asQ2, rd_asB, rd_asI, rd_p1, rd_p2, rd_pI0, rd_pI2, rd_pU, rd_pAdd1, rd_pAdd2, rd_pAdd3, rd_pAdd4, rd_pMul1, rd_pMul2, rd_pMul3, rd_pLen1, rd_pLen2, rd_pLen3, rd_pInt1, rd_pAbs, rd_pList1, rd_pList2, rd_pList3, rd_pCut1, rd_pCut2, rd_pCut3, rd_non1, rd_non2, rd_non3, rd_non4, rd_non5, rd_non6, rd_isStr, rd_pIx1, rd_pIx2, rd_pIx3, rd_pJoin1, rd_upS1, rd_upS2, rd_out1, rd_out2, rd_out3, rd_out4, rd_asL1, rd_asL2, rd_putL1, rd_putL2, rd_lkT1, rd_lkT2, rd_lkT3, rd_thT, rd_mvT1, rd_mvT2, rd_asDT, rd_asQT, rd_upT1, rd_upT2, rd_outT1, rd_outT2, rd_ref1, rd_ref2, rd_ref3, rd_ref4, rd_flat6, rd_flats0, rd_flats1, rd_er1, rd_er2, rd_er3, rd_er4, rd_ers0, rd_ers1, rd_ersL, rd_stA, rd_isi1, rd_isi2, rd_isi3, rd_isi4, rd_isX, rd_draw, rd_take, rd_pLt, rd_pLe, rd_pGt, rd_pGe, rd_pTuple1, rd_pTuple2, rd_pStr1, rd_pStr2, rd_pInt, rd_pIntS, rd_pIntB, rd_pOrd, rd_pMax, rd_pSplit, rd_pPart, rd_stO, rd_pCutS, rd_solB, rd_pIn1, rd_pNotIn1, rd_pIn2, rd_pIn3, rd_pNotIn2, rd_pNotIn3, rd_pBls, rd_pJoin2, rd_at0, rd_at1, rd_at2, rd_at3, rd_atL, rd_ixL, rd_pRepr, rd_pGt2, rd_pLt2, rd_pListU1, rd_pListU2, rd_pListU3, rd_pListU4, rd_pSindex, rd_pStarts, rd_f1, rd_pSort, rd_pSortD, rd_oF, rd_qF, rd_fCB, rd_cat, rd_rep, rd_rev, rd_isB, rd_notB, rd_ixA1, rd_ixA2, rd_ixA3, rd_ixA4, rd_ixA5, rd_treS1, rd_treS2, rd_setT1, rd_setT2, rd_slT1, rd_slT2, rd_slT3, rd_pListF]
    refine ⟨by omega, J_ms a b i k, ⟨ks, vs, x4, x5, rfl, g0, by omega, g2, fun i' j h1 h2 h3 => g3 i' j (by omega) h2 h3, fun j h1 h2 => by omega, f4, f5⟩, ?_⟩
    rintro k2 env ⟨ks, vs, x4, x5, rfl, g0, g1, g2, g3, g4, f4, f5⟩
    refine ⟨fun d hd => ?_, fun hj => ?_⟩
    · obtain ⟨hj', _⟩ := List.getElem?_eq_some_iff.mp hd
      rw [rngD, List.length_map, List.length_range] at hj'
      rw [rngD, rng_get hj'] at hd
      cases hd
      obtain ⟨j, hj⟩ : ∃ j : Nat, ((b.length : Int) - (k2 : Int)) = j := ⟨b.length - k2, by omega⟩
      rw [hj]
      have hjb : j ≤ b.length := by omega
      have hkj : b.length + 1 - k2 = j + 1 := by omega
      have fin : ∀ v : Nat, v = Two.l ⟨a, b⟩ i j → ∃ t2, putN (.dct none ks (vs.map .leaf)) (keyL i j) (.leaf (.int v)) = some t2 ∧ J_ms a b i k (k2 + 1) [.frz (.lst a), .frz (.lst b), .tre t2, .frz (.int i), .frz (.int j), .frz (.int v)] := fun v hv => by
        refine ⟨.dct none (putKs ks (keyL i j)) ((putVv ks (keyL i j) vs (.int v)).map .leaf), ?_, _, _, _, _, rfl, put_len g0, ?_, putKs_L g2 i j, fun i' j' h1 h2 h3 => ?_, fun j' h1 h2 => ?_, rfl, rfl⟩
        · rw [put_dct, putVv_map, if_pos]
          rw [same_key g2 i j]
          simp only [Bool.true_and, Bool.and_true, Bool.and_eq_true, decide_eq_true_eq]
          exact ⟨⟨rfl, rfl⟩, by omega⟩
        · have := putKs_len (ks := ks) (k := keyL i j)
          omega
        · rw [atV_put g0, if_neg (fun z => by have := keyL_inj.mp z; omega)]
          exact g3 i' j' h1 h2 h3
        · rw [atV_put g0]
          by_cases e : j' = j
          · rw [if_pos (by rw [e]), hv, e]
          · rw [if_neg (fun z => e (keyL_inj.mp z).2)]
            exact g4 j' (by omega) h2
      simp only [f4, f5, sSeq, sSet, sIf, sRet, sRetN, sNext, sBreak, sCont, sDrop, sNever, sAsg, sPar, sAug, sApp, sExt, sSetI, sForI, sWhile, sMid, sTry, sRaise, qVar, qC, qOp, qUn, qB, qAnd, qOr, qNot, qAndV, qOrV, qNotV, qIf, qNil, qCons, qCB, qTup, qLst, qCut, qPart, qNo, qM1, qM0, qCall, qChain, qXf, eQ, eVar, eC, eOp, eUn, eIf, eNil, eCons, eCB, eTup, eLst, eO, eCut, eM1, eM0, ePop, eIxV, eAnd, eOr, eNot, eAndV, eOrV, eNotV, eChain, eCutE, eNo, ePart, oSu, iS, tB', tQ, tYes', oE, oPlus, oRep, oTre, oNew, oCompT, iR3, sPut, plVar, plIx, sIns, ePopAt, eRev, oLst, oMove, oIf, oCall, oSt, oComp, iL, iT, iR1, iR2, gN, gT, gsNil, gsCons, cNil, cVal, cRef, free_0, free_succ, ends, outs, nils, resolve, putBack, allRef, refs, wipeE, pIsN, pNotN, pEq, pNe, eqOk_ii, eqOk_ss, eqOk_bb, eqOk_ni, eqOk_in, frS_frz, frS_own, frS_nil, List.replicate, List.getElem?_cons_zero, List.getElem?_cons_succ, List.set_cons_zero, List.set_cons_succ, List.cons_append, List.nil_append, List.length_cons, List.length_nil, List.take_succ_cons, List.take_zero, List.map_cons, List.map_nil, true_and, and_true, D.int.injEq, D.str.injEq, D.lst.injEq, decide_eq_true_eq, ite_true, ite_false, if_true, if_false, reduceIte, Bool.false_eq_true, false_and, and_false, Bool.not_true, Bool.not_false, Option.some.injEq, exists_eq_left', exists_eq_left, exists_and_left, List.nodup_cons, List.nodup_nil, List.not_mem_nil, not_false_eq_true, List.mem_cons, or_false, false_or, forall_eq, forall_eq_or_imp, Slot.own.injEq, Slot.par.injEq, Slot.frz.injEq, reduceCtorEq, exists_eq', exists_eq, exists_false, decide_true, decide_false, or_self, false_implies, implies_true, forall_const, eq_self, rd_lkL1, rd_lkL2, rd_lkL3, rd_lkE1, rd_lkE2, rd_thE1, rd_thE2, rd_lkF1, rd_lkX1, rd_lkX2, rd_lkX3, rd_mvS1, rd_mvS2, rd_mvE1, rd_mvE2, rd_lsO1, rd_lsO2, rd_tpO1, rd_sol1, rd_sol2, rd_sol3, rd_sol4, rd_sol5, rd_sol6, rd_sol7, rd_flat1, rd_flat2, rd_flat3, rd_flat4, rd_flat5, rd_asD1, rd_asD2, rd_asQ1, rd_asQ2, rd_asB, rd_asI, rd_p1, rd_p2, rd_pI0, rd_pI2, rd_pU, rd_pAdd1, rd_pAdd2, rd_pAdd3, rd_pAdd4, rd_pMul1, rd_pMul2, rd_pMul3, rd_pLen1, rd_pLen2, rd_pLen3, rd_pInt1, rd_pAbs, rd_pList1, rd_pList2, rd_pList3, rd_pCut1, rd_pCut2, rd_pCut3, rd_non1, rd_non2, rd_non3, rd_non4, rd_non5, rd_non6, rd_isStr, rd_pIx1, rd_pIx2, rd_pIx3, rd_pJoin1, rd_upS1, rd_upS2, rd_out1, rd_out2, rd_out3, rd_out4, rd_asL1, rd_asL2, rd_putL1, rd_putL2, rd_lkT1, rd_lkT2, rd_lkT3, rd_thT, rd_mvT1, rd_mvT2, rd_asDT, rd_asQT, rd_upT1, rd_upT2, rd_outT1, rd_outT2, rd_ref1, rd_ref2, rd_ref3, rd_ref4, rd_flat6, rd_flats0, rd_flats1, rd_er1, rd_er2, rd_er3, rd_er4, rd_ers0, rd_ers1, rd_ersL, rd_stA, rd_isi1, rd_isi2, rd_isi3, rd_isi4, rd_isX, rd_draw, rd_take, rd_pLt, rd_pLe, rd_pGt, rd_pGe, rd_pTuple1, rd_pTuple2, rd_pStr1, rd_pStr2, rd_pInt, rd_pIntS, rd_pIntB, rd_pOrd, rd_pMax, rd_pSplit, rd_pPart, rd_stO, rd_pCutS, rd_solB, rd_pIn1, rd_pNotIn1, rd_pIn2, rd_pIn3, rd_pNotIn2, rd_pNotIn3, rd_pBls, rd_pJoin2, rd_at0, rd_at1, rd_at2, rd_at3, rd_atL, rd_ixL, rd_pRepr, rd_pGt2, rd_pLt2, rd_pListU1, rd_pListU2, rd_pListU3, rd_pListU4, rd_pSindex, rd_pStarts, rd_f1, rd_pSort, rd_pSortD, rd_oF, rd_qF, rd_fCB, rd_cat, rd_rep, rd_rev, rd_isB, rd_notB, rd_ixA1, rd_ixA2, rd_ixA3, rd_ixA4, rd_ixA5, rd_treS1, rd_treS2, rd_setT1, rd_setT2, rd_slT1, rd_slT2, rd_slT3, rd_pListF]
      rw [show ((i : Int) + 1) = ((i + 1 : Nat) : Int) by omega, show ((j : Int) + 1) = ((j + 1 : Nat) : Int) by omega]
      by_cases hia' : i < a.length
      · rw [if_pos (by omega)]
        by_cases hjb' : j < b.length
        · rw [if_pos (by omega)]
          have v10 := g3 (i + 1) j (by omega) (by omega) (by omega)
          have v01 := g4 (j + 1) (by omega) (by omega)
          have v11 := g3 (i + 1) (j + 1) (by omega) (by omega) (by omega)
          have ga := Pu.atI_nat (List.getElem?_eq_getElem hia')
          have gb := Pu.atI_nat (List.getElem?_eq_getElem hjb')
          have ia := hk.2.2.1 _ (List.getElem_mem hia')
          have ib := hk.2.2.2 _ (List.getElem_mem hjb')
          have hs := l_step (w := ⟨a, b⟩) (i := i) (j := j) hia' hjb'
          have hdn := l_down (w := ⟨a, b⟩) _ (i + 1) j (Nat.le_refl _)
          have hdn2 := l_down (w := ⟨a, b⟩) _ i (j + 1) (Nat.le_refl _)
          dsimp only at hs ia ib
          rw [List.getElem?_eq_getElem hia', List.getElem?_eq_getElem hjb'] at hs
          refine ⟨by omega, k_ok g2 (i + 1) j, _, v10, rfl, by omega, k_ok g2 i (j + 1), _, v01, rfl, ?_⟩
          simp only [sSeq, sSet, sIf, sRet, sRetN, sNext, sBreak, sCont, sDrop, sNever, sAsg, sPar, sAug, sApp, sExt, sSetI, sForI, sWhile, sMid, sTry, sRaise, qVar, qC, qOp, qUn, qB, qAnd, qOr, qNot, qAndV, qOrV, qNotV, qIf, qNil, qCons, qCB, qTup, qLst, qCut, qPart, qNo, qM1, qM0, qCall, qChain, qXf, eQ, eVar, eC, eOp, eUn, eIf, eNil, eCons, eCB, eTup, eLst, eO, eCut, eM1, eM0, ePop, eIxV, eAnd, eOr, eNot, eAndV, eOrV, eNotV, eChain, eCutE, eNo, ePart, oSu, iS, tB', tQ, tYes', oE, oPlus, oRep, oTre, oNew, oCompT, iR3, sPut, plVar, plIx, sIns, ePopAt, eRev, oLst, oMove, oIf, oCall, oSt, oComp, iL, iT, iR1, iR2, gN, gT, gsNil, gsCons, cNil, cVal, cRef, free_0, free_succ, ends, outs, nils, resolve, putBack, allRef, refs, wipeE, pIsN, pNotN, pEq, pNe, eqOk_ii, eqOk_ss, eqOk_bb, eqOk_ni, eqOk_in, frS_frz, frS_own, frS_nil, List.replicate, List.getElem?_cons_zero, List.getElem?_cons_succ, List.set_cons_zero, List.set_cons_succ, List.cons_append, List.nil_append, List.length_cons, List.length_nil, List.take_succ_cons, List.take_zero, List.map_cons, List.map_nil, true_and, and_true, D.int.injEq, D.str.injEq, D.lst.injEq, decide_eq_true_eq, ite_true, ite_false, if_true, if_false, reduceIte, Bool.false_eq_true, false_and, and_false, Bool.not_true, Bool.not_false, Option.some.injEq, exists_eq_left', exists_eq_left, exists_and_left, List.nodup_cons, List.nodup_nil, List.not_mem_nil, not_false_eq_true, List.mem_cons, or_false, false_or, forall_eq, forall_eq_or_imp, Slot.own.injEq, Slot.par.injEq, Slot.frz.injEq, reduceCtorEq, exists_eq', exists_eq, exists_false, decide_true, decide_false, or_self, false_implies, implies_true, forall_const, eq_self, rd_lkL1, rd_lkL2, rd_lkL3, rd_lkE1, rd_lkE2, rd_thE1, rd_thE2, rd_lkF1, rd_lkX1, rd_lkX2, rd_lkX3, rd_mvS1, rd_mvS2, rd_mvE1, rd_mvE2, rd_lsO1, rd_lsO2, rd_tpO1, rd_sol1, rd_sol2, rd_sol3, rd_sol4, rd_sol5, rd_sol6, rd_sol7, rd_flat1, rd_flat2, rd_flat3, rd_flat4, rd_flat5, rd_asD1, rd_asD2, rd_asQ1, rd_asQ2, rd_asB, rd_asI, rd_p1, rd_p2, rd_pI0, rd_pI2, rd_pU, rd_pAdd1, rd_pAdd2, rd_pAdd3, rd_pAdd4, rd_pMul1, rd_pMul2, rd_pMul3, rd_pLen1, rd_pLen2, rd_pLen3, rd_pInt1, rd_pAbs, rd_pList1, rd_pList2, rd_pList3, rd_pCut1, rd_pCut2, rd_pCut3, rd_non1, rd_non2, rd_non3, rd_non4, rd_non5, rd_non6, rd_isStr, rd_pIx1, rd_pIx2, rd_pIx3, rd_pJoin1, rd_upS1, rd_upS2, rd_out1, rd_out2, rd_out3, rd_out4, rd_asL1, rd_asL2, rd_putL1, rd_putL2, rd_lkT1, rd_lkT2, rd_lkT3, rd_thT, rd_mvT1, rd_mvT2, rd_asDT, rd_asQT, rd_upT1, rd_upT2, rd_outT1, rd_outT2, rd_ref1, rd_ref2, rd_ref3, rd_ref4, rd_flat6, rd_flats0, rd_flats1, rd_er1, rd_er2, rd_er3, rd_er4, rd_ers0, rd_ers1, rd_ersL, rd_stA, rd_isi1, rd_isi2, rd_isi3, rd_isi4, rd_isX, rd_draw, rd_take, rd_pLt, rd_pLe, rd_pGt, rd_pGe, rd_pTuple1, rd_pTuple2, rd_pStr1, rd_pStr2, rd_pInt, rd_pIntS, rd_pIntB, rd_pOrd, rd_pMax, rd_pSplit, rd_pPart, rd_stO, rd_pCutS, rd_solB, rd_pIn1, rd_pNotIn1, rd_pIn2, rd_pIn3, rd_pNotIn2, rd_pNotIn3, rd_pBls, rd_pJoin2, rd_at0, rd_at1, rd_at2, rd_at3, rd_atL, rd_ixL, rd_pRepr, rd_pGt2, rd_pLt2, rd_pListU1, rd_pListU2, rd_pListU3, rd_pListU4, rd_pSindex, rd_pStarts, rd_f1, rd_pSort, rd_pSortD, rd_oF, rd_qF, rd_fCB, rd_cat, rd_rep, rd_rev, rd_isB, rd_notB, rd_ixA1, rd_ixA2, rd_ixA3, rd_ixA4, rd_ixA5, rd_treS1, rd_treS2, rd_setT1, rd_setT2, rd_slT1, rd_slT2, rd_slT3, rd_pListF]
          have mx : ∀ x y : Nat, (if ((y : Nat) : Int) > ((x : Nat) : Int) then ((y : Nat) : Int) else ((x : Nat) : Int)) = ((max x y : Nat) : Int) := fun x y => by split <;> omega
          rw [mx]
          refine ⟨_, ga, ?_⟩
          have ends : (¬ a[i] = b[j]) → ∃ t2, putN (.dct none ks (vs.map .leaf)) (keyL i j) (.leaf (.int ((max (Two.l ⟨a, b⟩ (i + 1) j) (Two.l ⟨a, b⟩ i (j + 1)) : Nat) : Int))) = some t2 ∧ J_ms a b i k (k2 + 1) [.frz (.lst a), .frz (.lst b), .tre t2, .frz (.int i), .frz (.int j), .frz (.int ((max (Two.l ⟨a, b⟩ (i + 1) j) (Two.l ⟨a, b⟩ i (j + 1)) : Nat) : Int))] := fun he => by
            rw [if_neg (fun z => he (Option.some.inj z))] at hs
            exact fin _ (by omega)
          by_cases hn : isNone a[i] = true
          · rw [if_neg (by rw [hn]; simp)]
            refine ⟨by omega, ends fun z => ?_⟩
            obtain ⟨t, ht, _⟩ := ib
            rw [z, ht] at hn
            exact absurd hn (by simp [isNone])
          · rw [if_pos (by simpa using hn)]
            refine ⟨_, ga, _, gb, eqOk_it ia ib, ?_⟩
            split
            · rename_i he
              rw [if_pos (by rw [he])] at hs
              refine ⟨by omega, k_ok g2 (i + 1) (j + 1), _, v11, rfl, ?_⟩
              simp only [sSeq, sSet, sIf, sRet, sRetN, sNext, sBreak, sCont, sDrop, sNever, sAsg, sPar, sAug, sApp, sExt, sSetI, sForI, sWhile, sMid, sTry, sRaise, qVar, qC, qOp, qUn, qB, qAnd, qOr, qNot, qAndV, qOrV, qNotV, qIf, qNil, qCons, qCB, qTup, qLst, qCut, qPart, qNo, qM1, qM0, qCall, qChain, qXf, eQ, eVar, eC, eOp, eUn, eIf, eNil, eCons, eCB, eTup, eLst, eO, eCut, eM1, eM0, ePop, eIxV, eAnd, eOr, eNot, eAndV, eOrV, eNotV, eChain, eCutE, eNo, ePart, oSu, iS, tB', tQ, tYes', oE, oPlus, oRep, oTre, oNew, oCompT, iR3, sPut, plVar, plIx, sIns, ePopAt, eRev, oLst, oMove, oIf, oCall, oSt, oComp, iL, iT, iR1, iR2, gN, gT, gsNil, gsCons, cNil, cVal, cRef, free_0, free_succ, ends, outs, nils, resolve, putBack, allRef, refs, wipeE, pIsN, pNotN, pEq, pNe, eqOk_ii, eqOk_ss, eqOk_bb, eqOk_ni, eqOk_in, frS_frz, frS_own, frS_nil, List.replicate, List.getElem?_cons_zero, List.getElem?_cons_succ, List.set_cons_zero, List.set_cons_succ, List.cons_append, List.nil_append, List.length_cons, List.length_nil, List.take_succ_cons, List.take_zero, List.map_cons, List.map_nil, true_and, and_true, D.int.injEq, D.str.injEq, D.lst.injEq, decide_eq_true_eq, ite_true, ite_false, if_true, if_false, reduceIte, Bool.false_eq_true, false_and, and_false, Bool.not_true, Bool.not_false, Option.some.injEq, exists_eq_left', exists_eq_left, exists_and_left, List.nodup_cons, List.nodup_nil, List.not_mem_nil, not_false_eq_true, List.mem_cons, or_false, false_or, forall_eq, forall_eq_or_imp, Slot.own.injEq, Slot.par.injEq, Slot.frz.injEq, reduceCtorEq, exists_eq', exists_eq, exists_false, decide_true, decide_false, or_self, false_implies, implies_true, forall_const, eq_self, rd_lkL1, rd_lkL2, rd_lkL3, rd_lkE1, rd_lkE2, rd_thE1, rd_thE2, rd_lkF1, rd_lkX1, rd_lkX2, rd_lkX3, rd_mvS1, rd_mvS2, rd_mvE1, rd_mvE2, rd_lsO1, rd_lsO2, rd_tpO1, rd_sol1, rd_sol2, rd_sol3, rd_sol4, rd_sol5, rd_sol6, rd_sol7, rd_flat1, rd_flat2, rd_flat3, rd_flat4, rd_flat5, rd_asD1, rd_asD2, rd_asQ1, rd_asQ2, rd_asB, rd_asI, rd_p1, rd_p2, rd_pI0, rd_pI2, rd_pU, rd_pAdd1, rd_pAdd2, rd_pAdd3, rd_pAdd4, rd_pMul1, rd_pMul2, rd_pMul3, rd_pLen1, rd_pLen2, rd_pLen3, rd_pInt1, rd_pAbs, rd_pList1, rd_pList2, rd_pList3, rd_pCut1, rd_pCut2, rd_pCut3, rd_non1, rd_non2, rd_non3, rd_non4, rd_non5, rd_non6, rd_isStr, rd_pIx1, rd_pIx2, rd_pIx3, rd_pJoin1, rd_upS1, rd_upS2, rd_out1, rd_out2, rd_out3, rd_out4, rd_asL1, rd_asL2, rd_putL1, rd_putL2, rd_lkT1, rd_lkT2, rd_lkT3, rd_thT, rd_mvT1, rd_mvT2, rd_asDT, rd_asQT, rd_upT1, rd_upT2, rd_outT1, rd_outT2, rd_ref1, rd_ref2, rd_ref3, rd_ref4, rd_flat6, rd_flats0, rd_flats1, rd_er1, rd_er2, rd_er3, rd_er4, rd_ers0, rd_ers1, rd_ersL, rd_stA, rd_isi1, rd_isi2, rd_isi3, rd_isi4, rd_isX, rd_draw, rd_take, rd_pLt, rd_pLe, rd_pGt, rd_pGe, rd_pTuple1, rd_pTuple2, rd_pStr1, rd_pStr2, rd_pInt, rd_pIntS, rd_pIntB, rd_pOrd, rd_pMax, rd_pSplit, rd_pPart, rd_stO, rd_pCutS, rd_solB, rd_pIn1, rd_pNotIn1, rd_pIn2, rd_pIn3, rd_pNotIn2, rd_pNotIn3, rd_pBls, rd_pJoin2, rd_at0, rd_at1, rd_at2, rd_at3, rd_atL, rd_ixL, rd_pRepr, rd_pGt2, rd_pLt2, rd_pListU1, rd_pListU2, rd_pListU3, rd_pListU4, rd_pSindex, rd_pStarts, rd_f1, rd_pSort, rd_pSortD, rd_oF, rd_qF, rd_fCB, rd_cat, rd_rep, rd_rev, rd_isB, rd_notB, rd_ixA1, rd_ixA2, rd_ixA3, rd_ixA4, rd_ixA5, rd_treS1, rd_treS2, rd_setT1, rd_setT2, rd_slT1, rd_slT2, rd_slT3, rd_pListF]
              rw [show ((Two.l ⟨a, b⟩ (i + 1) (j + 1) : Nat) : Int) + 1 = ((Two.l ⟨a, b⟩ (i + 1) (j + 1) + 1 : Nat) : Int) by omega, mx]
              exact ⟨by omega, fin _ (by omega)⟩
            · rename_i he
              exact ⟨by omega, ends he⟩
        · rw [if_neg (by omega)]
          exact ⟨by omega, fin 0 (by rw [l_end2 (by dsimp only; omega)])⟩
      · rw [if_neg (by omega)]
        exact ⟨by omega, fin 0 (by rw [l_end1 (by dsimp only; omega)])⟩
    · rw [rngD, List.length_map, List.length_range] at hj
      simp only [f4, f5, sSeq, sSet, sIf, sRet, sRetN, sNext, sBreak, sCont, sDrop, sNever, sAsg, sPar, sAug, sApp, sExt, sSetI, sForI, sWhile, sMid, sTry, sRaise, qVar, qC, qOp, qUn, qB, qAnd, qOr, qNot, qAndV, qOrV, qNotV, qIf, qNil, qCons, qCB, qTup, qLst, qCut, qPart, qNo, qM1, qM0, qCall, qChain, qXf, eQ, eVar, eC, eOp, eUn, eIf, eNil, eCons, eCB, eTup, eLst, eO, eCut, eM1, eM0, ePop, eIxV, eAnd, eOr, eNot, eAndV, eOrV, eNotV, eChain, eCutE, eNo, ePart, oSu, iS, tB', tQ, tYes', oE, oPlus, oRep, oTre, oNew, oCompT, iR3, sPut, plVar, plIx, sIns, ePopAt, eRev, oLst, oMove, oIf, oCall, oSt, oComp, iL, iT, iR1, iR2, gN, gT, gsNil, gsCons, cNil, cVal, cRef, free_0, free_succ, ends, outs, nils, resolve, putBack, allRef, refs, wipeE, pIsN, pNotN, pEq, pNe, eqOk_ii, eqOk_ss, eqOk_bb, eqOk_ni, eqOk_in, frS_frz, frS_own, frS_nil, List.replicate, List.getElem?_cons_zero, List.getElem?_cons_succ, List.set_cons_zero, List.set_cons_succ, List.cons_append, List.nil_append, List.length_cons, List.length_nil, List.take_succ_cons, List.take_zero, List.map_cons, List.map_nil, true_and, and_true, D.int.injEq, D.str.injEq, D.lst.injEq, decide_eq_true_eq, ite_true, ite_false, if_true, if_false, reduceIte, Bool.false_eq_true, false_and, and_false, Bool.not_true, Bool.not_false, Option.some.injEq, exists_eq_left', exists_eq_left, exists_and_left, List.nodup_cons, List.nodup_nil, List.not_mem_nil, not_false_eq_true, List.mem_cons, or_false, false_or, forall_eq, forall_eq_or_imp, Slot.own.injEq, Slot.par.injEq, Slot.frz.injEq, reduceCtorEq, exists_eq', exists_eq, exists_false, decide_true, decide_false, or_self, false_implies, implies_true, forall_const, eq_self, rd_lkL1, rd_lkL2, rd_lkL3, rd_lkE1, rd_lkE2, rd_thE1, rd_thE2, rd_lkF1, rd_lkX1, rd_lkX2, rd_lkX3, rd_mvS1, rd_mvS2, rd_mvE1, rd_mvE2, rd_lsO1, rd_lsO2, rd_tpO1, rd_sol1, rd_sol2, rd_sol3, rd_sol4, rd_sol5, rd_sol6, rd_sol7, rd_flat1, rd_flat2, rd_flat3, rd_flat4, rd_flat5, rd_asD1, rd_asD2, rd_asQ1, rd_asQ2, rd_asB, rd_asI, rd_p1, rd_p2, rd_pI0, rd_pI2, rd_pU, rd_pAdd1, rd_pAdd2, rd_pAdd3, rd_pAdd4, rd_pMul1, rd_pMul2, rd_pMul3, rd_pLen1, rd_pLen2, rd_pLen3, rd_pInt1, rd_pAbs, rd_pList1, rd_pList2, rd_pList3, rd_pCut1, rd_pCut2, rd_pCut3, rd_non1, rd_non2, rd_non3, rd_non4, rd_non5, rd_non6, rd_isStr, rd_pIx1, rd_pIx2, rd_pIx3, rd_pJoin1, rd_upS1, rd_upS2, rd_out1, rd_out2, rd_out3, rd_out4, rd_asL1, rd_asL2, rd_putL1, rd_putL2, rd_lkT1, rd_lkT2, rd_lkT3, rd_thT, rd_mvT1, rd_mvT2, rd_asDT, rd_asQT, rd_upT1, rd_upT2, rd_outT1, rd_outT2, rd_ref1, rd_ref2, rd_ref3, rd_ref4, rd_flat6, rd_flats0, rd_flats1, rd_er1, rd_er2, rd_er3, rd_er4, rd_ers0, rd_ers1, rd_ersL, rd_stA, rd_isi1, rd_isi2, rd_isi3, rd_isi4, rd_isX, rd_draw, rd_take, rd_pLt, rd_pLe, rd_pGt, rd_pGe, rd_pTuple1, rd_pTuple2, rd_pStr1, rd_pStr2, rd_pInt, rd_pIntS, rd_pIntB, rd_pOrd, rd_pMax, rd_pSplit, rd_pPart, rd_stO, rd_pCutS, rd_solB, rd_pIn1, rd_pNotIn1, rd_pIn2, rd_pIn3, rd_pNotIn2, rd_pNotIn3, rd_pBls, rd_pJoin2, rd_at0, rd_at1, rd_at2, rd_at3, rd_atL, rd_ixL, rd_pRepr, rd_pGt2, rd_pLt2, rd_pListU1, rd_pListU2, rd_pListU3, rd_pListU4, rd_pSindex, rd_pStarts, rd_f1, rd_pSort, rd_pSortD, rd_oF, rd_qF, rd_fCB, rd_cat, rd_rep, rd_rev, rd_isB, rd_notB, rd_ixA1, rd_ixA2, rd_ixA3, rd_ixA4, rd_ixA5, rd_treS1, rd_treS2, rd_setT1, rd_setT2, rd_slT1, rd_slT2, rd_slT3, rd_pListF]
      refine ⟨ks, vs, _, _, _, rfl, g0, ?_, g2, fun i' j h1 h2 h3 => ?_, rfl, f4, f5⟩
      · rw [Nat.succ_mul]
        omega
      · by_cases e : i' = i
        · subst e; exact g4 j (by omega) h3
        · exact g3 i' j (by omega) h2 h3
  · rw [rngD, List.length_map, List.length_range] at hi
    simp only [f3, f4, f5, sSeq, sSet, sIf, sRet, sRetN, sNext, sBreak, sCont, sDrop, sNever, sAsg, sPar, sAug, sApp, sExt, sSetI, sForI, sWhile, sMid, sTry, sRaise, qVar, qC, qOp, qUn, qB, qAnd, qOr, qNot, qAndV, qOrV, qNotV, qIf, qNil, qCons, qCB, qTup, qLst, qCut, qPart, qNo, qM1, qM0, qCall, qChain, qXf, eQ, eVar, eC, eOp, eUn, eIf, eNil, eCons, eCB, eTup, eLst, eO, eCut, eM1, eM0, ePop, eIxV, eAnd, eOr, eNot, eAndV, eOrV, eNotV, eChain, eCutE, eNo, ePart, oSu, iS, tB', tQ, tYes', oE, oPlus, oRep, oTre, oNew, oCompT, iR3, sPut, plVar, plIx, sIns, ePopAt, eRev, oLst, oMove, oIf, oCall, oSt, oComp, iL, iT, iR1, iR2, gN, gT, gsNil, gsCons, cNil, cVal, cRef, free_0, free_succ, ends, outs, nils, resolve, putBack, allRef, refs, wipeE, pIsN, pNotN, pEq, pNe, eqOk_ii, eqOk_ss, eqOk_bb, eqOk_ni, eqOk_in, frS_frz, frS_own, frS_nil, List.replicate, List.getElem?_cons_zero, List.getElem?_cons_succ, List.set_cons_zero, List.set_cons_succ, List.cons_append, List.nil_append, List.length_cons, List.length_nil, List.take_succ_cons, List.take_zero, List.map_cons, List.map_nil, true_and, and_true, D.int.injEq, D.str.injEq, D.lst.injEq, decide_eq_true_eq, ite_true, ite_false, if_true, if_false, reduceIte, Bool.false_eq_true, false_and, and_false, Bool.not_true, Bool.not_false, Option.some.injEq, exists_eq_left', exists_eq_left, exists_and_left, List.nodup_cons, List.nodup_nil, List.not_mem_nil, not_false_eq_true, List.mem_cons, or_false, false_or, forall_eq, forall_eq_or_imp, Slot.own.injEq, Slot.par.injEq, Slot.frz.injEq, reduceCtorEq, exists_eq', exists_eq, exists_false, decide_true, decide_false, or_self, false_implies, implies_true, forall_const, eq_self, rd_lkL1, rd_lkL2, rd_lkL3, rd_lkE1, rd_lkE2, rd_thE1, rd_thE2, rd_lkF1, rd_lkX1, rd_lkX2, rd_lkX3, rd_mvS1, rd_mvS2, rd_mvE1, rd_mvE2, rd_lsO1, rd_lsO2, rd_tpO1, rd_sol1, rd_sol2, rd_sol3, rd_sol4, rd_sol5, rd_sol6, rd_sol7, rd_flat1, rd_flat2, rd_flat3, rd_flat4, rd_flat5, rd_asD1, rd_asD2, rd_asQ1, rd_asQ2, rd_asB, rd_asI, rd_p1, rd_p2, rd_pI0, rd_pI2, rd_pU, rd_pAdd1, rd_pAdd2, rd_pAdd3, rd_pAdd4, rd_pMul1, rd_pMul2, rd_pMul3, rd_pLen1, rd_pLen2, rd_pLen3, rd_pInt1, rd_pAbs, rd_pList1, rd_pList2, rd_pList3, rd_pCut1, rd_pCut2, rd_pCut3, rd_non1, rd_non2, rd_non3, rd_non4, rd_non5, rd_non6, rd_isStr, rd_pIx1, rd_pIx2, rd_pIx3, rd_pJoin1, rd_upS1, rd_upS2, rd_out1, rd_out2, rd_out3, rd_out4, rd_asL1, rd_asL2, rd_putL1, rd_putL2, rd_lkT1, rd_lkT2, rd_lkT3, rd_thT, rd_mvT1, rd_mvT2, rd_asDT, rd_asQT, rd_upT1, rd_upT2, rd_outT1, rd_outT2, rd_ref1, rd_ref2, rd_ref3, rd_ref4, rd_flat6, rd_flats0, rd_flats1, rd_er1, rd_er2, rd_er3, rd_er4, rd_ers0, rd_ers1, rd_ersL, rd_stA, rd_isi1, rd_isi2, rd_isi3, rd_isi4, rd_isX, rd_draw, rd_take, rd_pLt, rd_pLe, rd_pGt, rd_pGe, rd_pTuple1, rd_pTuple2, rd_pStr1, rd_pStr2, rd_pInt, rd_pIntS, rd_pIntB, rd_pOrd, rd_pMax, rd_pSplit, rd_pPart, rd_stO, rd_pCutS, rd_solB, rd_pIn1, rd_pNotIn1, rd_pIn2, rd_pIn3, rd_pNotIn2, rd_pNotIn3, rd_pBls, rd_pJoin2, rd_at0, rd_at1, rd_at2, rd_at3, rd_atL, rd_ixL, rd_pRepr, rd_pGt2, rd_pLt2, rd_pListU1, rd_pListU2, rd_pListU3, rd_pListU4, rd_pSindex, rd_pStarts, rd_f1, rd_pSort, rd_pSortD, rd_oF, rd_qF, rd_fCB, rd_cat, rd_rep, rd_rev, rd_isB, rd_notB, rd_ixA1, rd_ixA2, rd_ixA3, rd_ixA4, rd_ixA5, rd_treS1, rd_treS2, rd_setT1, rd_setT2, rd_slT1, rd_slT2, rd_slT3, rd_pListF]
    refine h _ ?_
    simp only [rd_er3, rd_ersL]
    exact ⟨ks, vs, rfl, g2, fun i j h1 h2 => g3 i j (by omega) h1 h2⟩
theorem most_ix {w : Two} {d : D} (h : MostOk w d) {i j : Nat} (hi : i ≤ w.a.length) (hj : j ≤ w.b.length) {Q : D → Prop} : pIxA d (.tup [.int i, .int j]) Q ↔ Q (.int (w.l i j)) := by
  obtain ⟨ks, ds, rfl, h1, h2⟩ := h
  have h3 := h2 i j hi hj
  rw [rd_ixA1]
  constructor
  · rintro ⟨_, d, e, q⟩
    have e' : atVv ks ds (keyL i j) = some d := e
    rw [h3] at e'
    cases e'
    exact q
  · intro q
    exact ⟨k_ok h1 i j, _, h3, q⟩
def I_ld (a b : List D) (d : D) (k : Nat) (env : Pu.Env) : Prop := ∃ (i j f : Nat) (acc : List St) (x : Pu.Slot), env = [.frz (.lst a), .frz (.lst b), .frz d, .own (stD acc), .frz (.int i), .frz (.int j), x] ∧ i ≤ a.length ∧ j ≤ b.length ∧ f + k = a.length + b.length ∧ a.length - i + (b.length - j) ≤ f ∧ Two.due ⟨a, b⟩ = acc ++ Two.steps ⟨a, b⟩ f i j ∧ acc.length ≤ k ∧ frS x = true
theorem pp_law_due : ∀ as Q X, ps_law_due as Q X → p_law_due (ends 2 Q) (as ++ nils (7 - as.length)) := by
  rintro as Q X ⟨⟨a, b⟩, rfl, hk, h⟩
  dsimp only at hk h
  have e2 := big
  have la := hk.1
  have lb := hk.2.1
  dsimp only at la lb
  simp only [p_law_due, c_most, sSeq, sSet, sIf, sRet, sRetN, sNext, sBreak, sCont, sDrop, sNever, sAsg, sPar, sAug, sApp, sExt, sSetI, sForI, sWhile, sMid, sTry, sRaise, qVar, qC, qOp, qUn, qB, qAnd, qOr, qNot, qAndV, qOrV, qNotV, qIf, qNil, qCons, qCB, qTup, qLst, qCut, qPart, qNo, qM1, qM0, qCall, qChain, qXf, eQ, eVar, eC, eOp, eUn, eIf, eNil, eCons, eCB, eTup, eLst, eO, eCut, eM1, eM0, ePop, eIxV, eAnd, eOr, eNot, eAndV, eOrV, eNotV, eChain, eCutE, eNo, ePart, oSu, iS, tB', tQ, tYes', oE, oPlus, oRep, oTre, oNew, oCompT, iR3, sPut, plVar, plIx, sIns, ePopAt, eRev, oLst, oMove, oIf, oCall, oSt, oComp, iL, iT, iR1, iR2, gN, gT, gsNil, gsCons, cNil, cVal, cRef, free_0, free_succ, ends, outs, nils, resolve, putBack, allRef, refs, wipeE, pIsN, pNotN, pEq, pNe, eqOk_ii, eqOk_ss, eqOk_bb, eqOk_ni, eqOk_in, frS_frz, frS_own, frS_nil, List.replicate, List.getElem?_cons_zero, List.getElem?_cons_succ, List.set_cons_zero, List.set_cons_succ, List.cons_append, List.nil_append, List.length_cons, List.length_nil, List.take_succ_cons, List.take_zero, List.map_cons, List.map_nil, true_and, and_true, D.int.injEq, D.str.injEq, D.lst.injEq, decide_eq_true_eq, ite_true, ite_false, if_true, if_false, reduceIte, Bool.false_eq_true, false_and, and_false, Bool.not_true, Bool.not_false, Option.some.injEq, exists_eq_left', exists_eq_left, exists_and_left, List.nodup_cons, List.nodup_nil, List.not_mem_nil, not_false_eq_true, List.mem_cons, or_false, false_or, forall_eq, forall_eq_or_imp, Slot.own.injEq, Slot.par.injEq, Slot.frz.injEq, reduceCtorEq, exists_eq', exists_eq, exists_false, decide_true, decide_false, or_self, false_implies, implies_true, forall_const, eq_self, rd_lkL1, rd_lkL2, rd_lkL3, rd_lkE1, rd_lkE2, rd_thE1, rd_thE2, rd_lkF1, rd_lkX1, rd_lkX2, rd_lkX3, rd_mvS1, rd_mvS2, rd_mvE1, rd_mvE2, rd_lsO1, rd_lsO2, rd_tpO1, rd_sol1, rd_sol2, rd_sol3, rd_sol4, rd_sol5, rd_sol6, rd_sol7, rd_flat1, rd_flat2, rd_flat3, rd_flat4, rd_flat5, rd_asD1, rd_asD2, rd_asQ1, rd_asQ2, rd_asB, rd_asI, rd_p1, rd_p2, rd_pI0, rd_pI2, rd_pU, rd_pAdd1, rd_pAdd2, rd_pAdd3, rd_pAdd4, rd_pMul1, rd_pMul2, rd_pMul3, rd_pLen1, rd_pLen2, rd_pLen3, rd_pInt1, rd_pAbs, rd_pList1, rd_pList2, rd_pList3, rd_pCut1, rd_pCut2, rd_pCut3, rd_non1, rd_non2, rd_non3, rd_non4, rd_non5, rd_non6, rd_isStr, rd_pIx1, rd_pIx2, rd_pIx3, rd_pJoin1, rd_upS1, rd_upS2, rd_out1, rd_out2, rd_out3, rd_out4, rd_asL1, rd_asL2, rd_putL1, rd_putL2, rd_lkT1, rd_lkT2, rd_lkT3, rd_thT, rd_mvT1, rd_mvT2, rd_asDT, rd_asQT, rd_upT1, rd_upT2, rd_outT1, rd_outT2, rd_ref1, rd_ref2, rd_ref3, rd_ref4, rd_flat6, rd_flats0, rd_flats1, rd_er1, rd_er2, rd_er3, rd_er4, rd_ers0, rd_ers1, rd_ersL, rd_stA, rd_isi1, rd_isi2, rd_isi3, rd_isi4, rd_isX, rd_draw, rd_take, rd_pLt, rd_pLe, rd_pGt, rd_pGe, rd_pTuple1, rd_pTuple2, rd_pStr1, rd_pStr2, rd_pInt, rd_pIntS, rd_pIntB, rd_pOrd, rd_pMax, rd_pSplit, rd_pPart, rd_stO, rd_pCutS, rd_solB, rd_pIn1, rd_pNotIn1, rd_pIn2, rd_pIn3, rd_pNotIn2, rd_pNotIn3, rd_pBls, rd_pJoin2, rd_at0, rd_at1, rd_at2, rd_at3, rd_atL, rd_ixL, rd_pRepr, rd_pGt2, rd_pLt2, rd_pListU1, rd_pListU2, rd_pListU3, rd_pListU4, rd_pSindex, rd_pStarts, rd_f1, rd_pSort, rd_pSortD, rd_oF, rd_qF, rd_fCB, rd_cat, rd_rep, rd_rev, rd_isB, rd_notB, rd_ixA1, rd_ixA2, rd_ixA3, rd_ixA4, rd_ixA5, rd_treS1, rd_treS2, rd_setT1, rd_setT2, rd_slT1, rd_slT2, rd_slT3, rd_pListF]
  refine ⟨hk, fun t ht => ?_⟩
  refine ⟨by omega, by omega, by omega, I_ld a b t.er, ⟨0, 0, a.length + b.length, [], .nil, rfl, by omega, by omega, rfl, by omega, rfl, by simp, rfl⟩, ?_⟩
  rintro k env ⟨i, j, f, acc, x, rfl, hi, hj, hfk, hf, hd, hl, fx⟩
  refine ⟨fun d hd' => ?_, fun hi2 => ?_⟩
  · obtain ⟨hk', _⟩ := List.getElem?_eq_some_iff.mp hd'
    rw [rng_len] at hk'
    rw [rng, rng_get hk'] at hd'
    cases hd'
    obtain ⟨f', rfl⟩ : ∃ f', f = f' + 1 := ⟨f - 1, by omega⟩
    rw [Two.steps] at hd
    dsimp only at hd
    have e1 : ((i : Int) + 1) = ((i + 1 : Nat) : Int) := by omega
    have e3 : ((j : Int) + 1) = ((j + 1 : Nat) : Int) := by omega
    simp only [fx, stD, sSeq, sSet, sIf, sRet, sRetN, sNext, sBreak, sCont, sDrop, sNever, sAsg, sPar, sAug, sApp, sExt, sSetI, sForI, sWhile, sMid, sTry, sRaise, qVar, qC, qOp, qUn, qB, qAnd, qOr, qNot, qAndV, qOrV, qNotV, qIf, qNil, qCons, qCB, qTup, qLst, qCut, qPart, qNo, qM1, qM0, qCall, qChain, qXf, eQ, eVar, eC, eOp, eUn, eIf, eNil, eCons, eCB, eTup, eLst, eO, eCut, eM1, eM0, ePop, eIxV, eAnd, eOr, eNot, eAndV, eOrV, eNotV, eChain, eCutE, eNo, ePart, oSu, iS, tB', tQ, tYes', oE, oPlus, oRep, oTre, oNew, oCompT, iR3, sPut, plVar, plIx, sIns, ePopAt, eRev, oLst, oMove, oIf, oCall, oSt, oComp, iL, iT, iR1, iR2, gN, gT, gsNil, gsCons, cNil, cVal, cRef, free_0, free_succ, ends, outs, nils, resolve, putBack, allRef, refs, wipeE, pIsN, pNotN, pEq, pNe, eqOk_ii, eqOk_ss, eqOk_bb, eqOk_ni, eqOk_in, frS_frz, frS_own, frS_nil, List.replicate, List.getElem?_cons_zero, List.getElem?_cons_succ, List.set_cons_zero, List.set_cons_succ, List.cons_append, List.nil_append, List.length_cons, List.length_nil, List.take_succ_cons, List.take_zero, List.map_cons, List.map_nil, true_and, and_true, D.int.injEq, D.str.injEq, D.lst.injEq, decide_eq_true_eq, ite_true, ite_false, if_true, if_false, reduceIte, Bool.false_eq_true, false_and, and_false, Bool.not_true, Bool.not_false, Option.some.injEq, exists_eq_left', exists_eq_left, exists_and_left, List.nodup_cons, List.nodup_nil, List.not_mem_nil, not_false_eq_true, List.mem_cons, or_false, false_or, forall_eq, forall_eq_or_imp, Slot.own.injEq, Slot.par.injEq, Slot.frz.injEq, reduceCtorEq, exists_eq', exists_eq, exists_false, decide_true, decide_false, or_self, false_implies, implies_true, forall_const, eq_self, rd_lkL1, rd_lkL2, rd_lkL3, rd_lkE1, rd_lkE2, rd_thE1, rd_thE2, rd_lkF1, rd_lkX1, rd_lkX2, rd_lkX3, rd_mvS1, rd_mvS2, rd_mvE1, rd_mvE2, rd_lsO1, rd_lsO2, rd_tpO1, rd_sol1, rd_sol2, rd_sol3, rd_sol4, rd_sol5, rd_sol6, rd_sol7, rd_flat1, rd_flat2, rd_flat3, rd_flat4, rd_flat5, rd_asD1, rd_asD2, rd_asQ1, rd_asQ2, rd_asB, rd_asI, rd_p1, rd_p2, rd_pI0, rd_pI2, rd_pU, rd_pAdd1, rd_pAdd2, rd_pAdd3, rd_pAdd4, rd_pMul1, rd_pMul2, rd_pMul3, rd_pLen1, rd_pLen2, rd_pLen3, rd_pInt1, rd_pAbs, rd_pList1, rd_pList2, rd_pList3, rd_pCut1, rd_pCut2, rd_pCut3, rd_non1, rd_non2, rd_non3, rd_non4, rd_non5, rd_non6, rd_isStr, rd_pIx1, rd_pIx2, rd_pIx3, rd_pJoin1, rd_upS1, rd_upS2, rd_out1, rd_out2, rd_out3, rd_out4, rd_asL1, rd_asL2, rd_putL1, rd_putL2, rd_lkT1, rd_lkT2, rd_lkT3, rd_thT, rd_mvT1, rd_mvT2, rd_asDT, rd_asQT, rd_upT1, rd_upT2, rd_outT1, rd_outT2, rd_ref1, rd_ref2, rd_ref3, rd_ref4, rd_flat6, rd_flats0, rd_flats1, rd_er1, rd_er2, rd_er3, rd_er4, rd_ers0, rd_ers1, rd_ersL, rd_stA, rd_isi1, rd_isi2, rd_isi3, rd_isi4, rd_isX, rd_draw, rd_take, rd_pLt, rd_pLe, rd_pGt, rd_pGe, rd_pTuple1, rd_pTuple2, rd_pStr1, rd_pStr2, rd_pInt, rd_pIntS, rd_pIntB, rd_pOrd, rd_pMax, rd_pSplit, rd_pPart, rd_stO, rd_pCutS, rd_solB, rd_pIn1, rd_pNotIn1, rd_pIn2, rd_pIn3, rd_pNotIn2, rd_pNotIn3, rd_pBls, rd_pJoin2, rd_at0, rd_at1, rd_at2, rd_at3, rd_atL, rd_ixL, rd_pRepr, rd_pGt2, rd_pLt2, rd_pListU1, rd_pListU2, rd_pListU3, rd_pListU4, rd_pSindex, rd_pStarts, rd_f1, rd_pSort, rd_pSortD, rd_oF, rd_qF, rd_fCB, rd_cat, rd_rep, rd_rev, rd_isB, rd_notB, rd_ixA1, rd_ixA2, rd_ixA3, rd_ixA4, rd_ixA5, rd_treS1, rd_treS2, rd_setT1, rd_setT2, rd_slT1, rd_slT2, rd_slT3, rd_pListF]
    rw [e1, e3]
    simp only [most_ix ht (i := i) (j := j) hi hj, sSeq, sSet, sIf, sRet, sRetN, sNext, sBreak, sCont, sDrop, sNever, sAsg, sPar, sAug, sApp, sExt, sSetI, sForI, sWhile, sMid, sTry, sRaise, qVar, qC, qOp, qUn, qB, qAnd, qOr, qNot, qAndV, qOrV, qNotV, qIf, qNil, qCons, qCB, qTup, qLst, qCut, qPart, qNo, qM1, qM0, qCall, qChain, qXf, eQ, eVar, eC, eOp, eUn, eIf, eNil, eCons, eCB, eTup, eLst, eO, eCut, eM1, eM0, ePop, eIxV, eAnd, eOr, eNot, eAndV, eOrV, eNotV, eChain, eCutE, eNo, ePart, oSu, iS, tB', tQ, tYes', oE, oPlus, oRep, oTre, oNew, oCompT, iR3, sPut, plVar, plIx, sIns, ePopAt, eRev, oLst, oMove, oIf, oCall, oSt, oComp, iL, iT, iR1, iR2, gN, gT, gsNil, gsCons, cNil, cVal, cRef, free_0, free_succ, ends, outs, nils, resolve, putBack, allRef, refs, wipeE, pIsN, pNotN, pEq, pNe, eqOk_ii, eqOk_ss, eqOk_bb, eqOk_ni, eqOk_in, frS_frz, frS_own, frS_nil, List.replicate, List.getElem?_cons_zero, List.getElem?_cons_succ, List.set_cons_zero, List.set_cons_succ, List.cons_append, List.nil_append, List.length_cons, List.length_nil, List.take_succ_cons, List.take_zero, List.map_cons, List.map_nil, true_and, and_true, D.int.injEq, D.str.injEq, D.lst.injEq, decide_eq_true_eq, ite_true, ite_false, if_true, if_false, reduceIte, Bool.false_eq_true, false_and, and_false, Bool.not_true, Bool.not_false, Option.some.injEq, exists_eq_left', exists_eq_left, exists_and_left, List.nodup_cons, List.nodup_nil, List.not_mem_nil, not_false_eq_true, List.mem_cons, or_false, false_or, forall_eq, forall_eq_or_imp, Slot.own.injEq, Slot.par.injEq, Slot.frz.injEq, reduceCtorEq, exists_eq', exists_eq, exists_false, decide_true, decide_false, or_self, false_implies, implies_true, forall_const, eq_self, rd_lkL1, rd_lkL2, rd_lkL3, rd_lkE1, rd_lkE2, rd_thE1, rd_thE2, rd_lkF1, rd_lkX1, rd_lkX2, rd_lkX3, rd_mvS1, rd_mvS2, rd_mvE1, rd_mvE2, rd_lsO1, rd_lsO2, rd_tpO1, rd_sol1, rd_sol2, rd_sol3, rd_sol4, rd_sol5, rd_sol6, rd_sol7, rd_flat1, rd_flat2, rd_flat3, rd_flat4, rd_flat5, rd_asD1, rd_asD2, rd_asQ1, rd_asQ2, rd_asB, rd_asI, rd_p1, rd_p2, rd_pI0, rd_pI2, rd_pU, rd_pAdd1, rd_pAdd2, rd_pAdd3, rd_pAdd4, rd_pMul1, rd_pMul2, rd_pMul3, rd_pLen1, rd_pLen2, rd_pLen3, rd_pInt1, rd_pAbs, rd_pList1, rd_pList2, rd_pList3, rd_pCut1, rd_pCut2, rd_pCut3, rd_non1, rd_non2, rd_non3, rd_non4, rd_non5, rd_non6, rd_isStr, rd_pIx1, rd_pIx2, rd_pIx3, rd_pJoin1, rd_upS1, rd_upS2, rd_out1, rd_out2, rd_out3, rd_out4, rd_asL1, rd_asL2, rd_putL1, rd_putL2, rd_lkT1, rd_lkT2, rd_lkT3, rd_thT, rd_mvT1, rd_mvT2, rd_asDT, rd_asQT, rd_upT1, rd_upT2, rd_outT1, rd_outT2, rd_ref1, rd_ref2, rd_ref3, rd_ref4, rd_flat6, rd_flats0, rd_flats1, rd_er1, rd_er2, rd_er3, rd_er4, rd_ers0, rd_ers1, rd_ersL, rd_stA, rd_isi1, rd_isi2, rd_isi3, rd_isi4, rd_isX, rd_draw, rd_take, rd_pLt, rd_pLe, rd_pGt, rd_pGe, rd_pTuple1, rd_pTuple2, rd_pStr1, rd_pStr2, rd_pInt, rd_pIntS, rd_pIntB, rd_pOrd, rd_pMax, rd_pSplit, rd_pPart, rd_stO, rd_pCutS, rd_solB, rd_pIn1, rd_pNotIn1, rd_pIn2, rd_pIn3, rd_pNotIn2, rd_pNotIn3, rd_pBls, rd_pJoin2, rd_at0, rd_at1, rd_at2, rd_at3, rd_atL, rd_ixL, rd_pRepr, rd_pGt2, rd_pLt2, rd_pListU1, rd_pListU2, rd_pListU3, rd_pListU4, rd_pSindex, rd_pStarts, rd_f1, rd_pSort, rd_pSortD, rd_oF, rd_qF, rd_fCB, rd_cat, rd_rep, rd_rev, rd_isB, rd_notB, rd_ixA1, rd_ixA2, rd_ixA3, rd_ixA4, rd_ixA5, rd_treS1, rd_treS2, rd_setT1, rd_setT2, rd_slT1, rd_slT2, rd_slT3, rd_pListF]
    have nxt : ∀ (s : St) (i' j' : Nat), i' ≤ a.length → j' ≤ b.length → a.length - i' + (b.length - j') ≤ f' → Two.due ⟨a, b⟩ = acc ++ (s :: Two.steps ⟨a, b⟩ f' i' j') →
        (acc.map St.d).length < sizeLine ∧ I_ld a b t.er (k + 1) [.frz (.lst a), .frz (.lst b), .frz t.er, .own (.lst (acc.map St.d ++ [s.d])), .frz (.int i'), .frz (.int j'), .frz (.int (0 + (k : Int)))] := fun s i' j' h1 h2 h3 h4 =>
      ⟨by rw [List.length_map]; omega, i', j', f', acc ++ [s], .frz (.int (0 + (k : Int))), by simp [stD], h1, h2, by omega, by omega, by rw [h4]; simp, by simp; omega, rfl⟩
    by_cases hia : i < a.length
    · have ga := Pu.atI_nat (List.getElem?_eq_getElem hia)
      have ia := hk.2.2.1 _ (List.getElem_mem hia)
      rw [if_pos (by omega)]
      simp only [most_ix ht (i := i + 1) (j := j) (by dsimp only; omega) hj, sSeq, sSet, sIf, sRet, sRetN, sNext, sBreak, sCont, sDrop, sNever, sAsg, sPar, sAug, sApp, sExt, sSetI, sForI, sWhile, sMid, sTry, sRaise, qVar, qC, qOp, qUn, qB, qAnd, qOr, qNot, qAndV, qOrV, qNotV, qIf, qNil, qCons, qCB, qTup, qLst, qCut, qPart, qNo, qM1, qM0, qCall, qChain, qXf, eQ, eVar, eC, eOp, eUn, eIf, eNil, eCons, eCB, eTup, eLst, eO, eCut, eM1, eM0, ePop, eIxV, eAnd, eOr, eNot, eAndV, eOrV, eNotV, eChain, eCutE, eNo, ePart, oSu, iS, tB', tQ, tYes', oE, oPlus, oRep, oTre, oNew, oCompT, iR3, sPut, plVar, plIx, sIns, ePopAt, eRev, oLst, oMove, oIf, oCall, oSt, oComp, iL, iT, iR1, iR2, gN, gT, gsNil, gsCons, cNil, cVal, cRef, free_0, free_succ, ends, outs, nils, resolve, putBack, allRef, refs, wipeE, pIsN, pNotN, pEq, pNe, eqOk_ii, eqOk_ss, eqOk_bb, eqOk_ni, eqOk_in, frS_frz, frS_own, frS_nil, List.replicate, List.getElem?_cons_zero, List.getElem?_cons_succ, List.set_cons_zero, List.set_cons_succ, List.cons_append, List.nil_append, List.length_cons, List.length_nil, List.take_succ_cons, List.take_zero, List.map_cons, List.map_nil, true_and, and_true, D.int.injEq, D.str.injEq, D.lst.injEq, decide_eq_true_eq, ite_true, ite_false, if_true, if_false, reduceIte, Bool.false_eq_true, false_and, and_false, Bool.not_true, Bool.not_false, Option.some.injEq, exists_eq_left', exists_eq_left, exists_and_left, List.nodup_cons, List.nodup_nil, List.not_mem_nil, not_false_eq_true, List.mem_cons, or_false, false_or, forall_eq, forall_eq_or_imp, Slot.own.injEq, Slot.par.injEq, Slot.frz.injEq, reduceCtorEq, exists_eq', exists_eq, exists_false, decide_true, decide_false, or_self, false_implies, implies_true, forall_const, eq_self, rd_lkL1, rd_lkL2, rd_lkL3, rd_lkE1, rd_lkE2, rd_thE1, rd_thE2, rd_lkF1, rd_lkX1, rd_lkX2, rd_lkX3, rd_mvS1, rd_mvS2, rd_mvE1, rd_mvE2, rd_lsO1, rd_lsO2, rd_tpO1, rd_sol1, rd_sol2, rd_sol3, rd_sol4, rd_sol5, rd_sol6, rd_sol7, rd_flat1, rd_flat2, rd_flat3, rd_flat4, rd_flat5, rd_asD1, rd_asD2, rd_asQ1, rd_asQ2, rd_asB, rd_asI, rd_p1, rd_p2, rd_pI0, rd_pI2, rd_pU, rd_pAdd1, rd_pAdd2, rd_pAdd3, rd_pAdd4, rd_pMul1, rd_pMul2, rd_pMul3, rd_pLen1, rd_pLen2, rd_pLen3, rd_pInt1, rd_pAbs, rd_pList1, rd_pList2, rd_pList3, rd_pCut1, rd_pCut2, rd_pCut3, rd_non1, rd_non2, rd_non3, rd_non4, rd_non5, rd_non6, rd_isStr, rd_pIx1, rd_pIx2, rd_pIx3, rd_pJoin1, rd_upS1, rd_upS2, rd_out1, rd_out2, rd_out3, rd_out4, rd_asL1, rd_asL2, rd_putL1, rd_putL2, rd_lkT1, rd_lkT2, rd_lkT3, rd_thT, rd_mvT1, rd_mvT2, rd_asDT, rd_asQT, rd_upT1, rd_upT2, rd_outT1, rd_outT2, rd_ref1, rd_ref2, rd_ref3, rd_ref4, rd_flat6, rd_flats0, rd_flats1, rd_er1, rd_er2, rd_er3, rd_er4, rd_ers0, rd_ers1, rd_ersL, rd_stA, rd_isi1, rd_isi2, rd_isi3, rd_isi4, rd_isX, rd_draw, rd_take, rd_pLt, rd_pLe, rd_pGt, rd_pGe, rd_pTuple1, rd_pTuple2, rd_pStr1, rd_pStr2, rd_pInt, rd_pIntS, rd_pIntB, rd_pOrd, rd_pMax, rd_pSplit, rd_pPart, rd_stO, rd_pCutS, rd_solB, rd_pIn1, rd_pNotIn1, rd_pIn2, rd_pIn3, rd_pNotIn2, rd_pNotIn3, rd_pBls, rd_pJoin2, rd_at0, rd_at1, rd_at2, rd_at3, rd_atL, rd_ixL, rd_pRepr, rd_pGt2, rd_pLt2, rd_pListU1, rd_pListU2, rd_pListU3, rd_pListU4, rd_pSindex, rd_pStarts, rd_f1, rd_pSort, rd_pSortD, rd_oF, rd_qF, rd_fCB, rd_cat, rd_rep, rd_rev, rd_isB, rd_notB, rd_ixA1, rd_ixA2, rd_ixA3, rd_ixA4, rd_ixA5, rd_treS1, rd_treS2, rd_setT1, rd_setT2, rd_slT1, rd_slT2, rd_slT3, rd_pListF]
      by_cases hjb : j < b.length
      · have gb := Pu.atI_nat (List.getElem?_eq_getElem hjb)
        have ib := hk.2.2.2 _ (List.getElem_mem hjb)
        rw [if_pos (by omega)]
        refine ⟨_, ga, ?_⟩
        rw [List.getElem?_eq_getElem hia, List.getElem?_eq_getElem hjb] at hd
        by_cases he : a[i] = b[j]
        · have hn : isNone a[i] = false := by
            obtain ⟨t, ht, _⟩ := ib
            rw [he, ht]
            rfl
          rw [hn, if_pos (by simp)]
          refine ⟨_, ga, _, gb, eqOk_it ia ib, ?_⟩
          rw [if_pos he]
          rw [if_pos ⟨hia, hjb, by rw [he]⟩] at hd
          obtain ⟨n1, n2⟩ := nxt (.keep i j) (i + 1) (j + 1) (by omega) (by omega) (by omega) hd
          exact ⟨by omega, n1, by omega, n2⟩
        · rw [if_neg (fun z => he (Option.some.inj z.2.2))] at hd
          by_cases hn : isNone a[i] = true
          · rw [if_neg (by rw [hn]; simp), if_pos (by omega)]
            refine ⟨by omega, by omega, ?_⟩
            split
            · rename_i hc
              rw [if_pos ⟨hia, by omega⟩] at hd
              exact ⟨by omega, nxt (.cut i) (i + 1) j (by omega) (by omega) (by omega) hd⟩
            · rename_i hc
              rw [if_neg (fun z => hc (by rw [z.2])), if_pos hjb] at hd
              rw [if_pos (by omega)]
              exact ⟨by omega, nxt (.put j) i (j + 1) (by omega) (by omega) (by omega) hd⟩
          · rw [if_pos (by simpa using hn)]
            refine ⟨_, ga, _, gb, eqOk_it ia ib, ?_⟩
            rw [if_neg he, if_pos (by omega)]
            refine ⟨by omega, by omega, ?_⟩
            split
            · rename_i hc
              rw [if_pos ⟨hia, by omega⟩] at hd
              exact ⟨by omega, nxt (.cut i) (i + 1) j (by omega) (by omega) (by omega) hd⟩
            · rename_i hc
              rw [if_neg (fun z => hc (by rw [z.2])), if_pos hjb] at hd
              rw [if_pos (by omega)]
              exact ⟨by omega, nxt (.put j) i (j + 1) (by omega) (by omega) (by omega) hd⟩
      · rw [if_neg (by omega), if_pos (by omega)]
        have z1 : Two.l ⟨a, b⟩ (i + 1) j = 0 := l_end2 (by dsimp only; omega)
        have z2 : Two.l ⟨a, b⟩ i j = 0 := l_end2 (by dsimp only; omega)
        rw [z1, z2] at hd ⊢
        rw [if_neg (fun z => hjb z.2.1), if_pos ⟨hia, rfl⟩] at hd
        rw [if_pos rfl]
        exact ⟨by omega, by omega, by omega, nxt (.cut i) (i + 1) j (by omega) (by omega) (by omega) hd⟩
    · rw [if_neg (by omega), if_neg (by omega)]
      by_cases hjb : j < b.length
      · rw [if_pos (by omega)]
        rw [if_neg (fun z => hia z.1), if_neg (fun z => hia z.1), if_pos hjb] at hd
        exact ⟨by omega, nxt (.put j) i (j + 1) (by omega) (by omega) (by omega) hd⟩
      · rw [if_neg (by omega)]
        rw [if_neg (fun z => hia z.1), if_neg (fun z => hia z.1), if_neg hjb] at hd
        exact ⟨i, j, f', acc, _, rfl, hi, hj, by omega, by omega, by rw [hd, steps_end f' (by dsimp only; omega) (by dsimp only; omega)], by omega, rfl⟩
  · rw [rng_len] at hi2
    simp only [fx, sSeq, sSet, sIf, sRet, sRetN, sNext, sBreak, sCont, sDrop, sNever, sAsg, sPar, sAug, sApp, sExt, sSetI, sForI, sWhile, sMid, sTry, sRaise, qVar, qC, qOp, qUn, qB, qAnd, qOr, qNot, qAndV, qOrV, qNotV, qIf, qNil, qCons, qCB, qTup, qLst, qCut, qPart, qNo, qM1, qM0, qCall, qChain, qXf, eQ, eVar, eC, eOp, eUn, eIf, eNil, eCons, eCB, eTup, eLst, eO, eCut, eM1, eM0, ePop, eIxV, eAnd, eOr, eNot, eAndV, eOrV, eNotV, eChain, eCutE, eNo, ePart, oSu, iS, tB', tQ, tYes', oE, oPlus, oRep, oTre, oNew, oCompT, iR3, sPut, plVar, plIx, sIns, ePopAt, eRev, oLst, oMove, oIf, oCall, oSt, oComp, iL, iT, iR1, iR2, gN, gT, gsNil, gsCons, cNil, cVal, cRef, free_0, free_succ, ends, outs, nils, resolve, putBack, allRef, refs, wipeE, pIsN, pNotN, pEq, pNe, eqOk_ii, eqOk_ss, eqOk_bb, eqOk_ni, eqOk_in, frS_frz, frS_own, frS_nil, List.replicate, List.getElem?_cons_zero, List.getElem?_cons_succ, List.set_cons_zero, List.set_cons_succ, List.cons_append, List.nil_append, List.length_cons, List.length_nil, List.take_succ_cons, List.take_zero, List.map_cons, List.map_nil, true_and, and_true, D.int.injEq, D.str.injEq, D.lst.injEq, decide_eq_true_eq, ite_true, ite_false, if_true, if_false, reduceIte, Bool.false_eq_true, false_and, and_false, Bool.not_true, Bool.not_false, Option.some.injEq, exists_eq_left', exists_eq_left, exists_and_left, List.nodup_cons, List.nodup_nil, List.not_mem_nil, not_false_eq_true, List.mem_cons, or_false, false_or, forall_eq, forall_eq_or_imp, Slot.own.injEq, Slot.par.injEq, Slot.frz.injEq, reduceCtorEq, exists_eq', exists_eq, exists_false, decide_true, decide_false, or_self, false_implies, implies_true, forall_const, eq_self, rd_lkL1, rd_lkL2, rd_lkL3, rd_lkE1, rd_lkE2, rd_thE1, rd_thE2, rd_lkF1, rd_lkX1, rd_lkX2, rd_lkX3, rd_mvS1, rd_mvS2, rd_mvE1, rd_mvE2, rd_lsO1, rd_lsO2, rd_tpO1, rd_sol1, rd_sol2, rd_sol3, rd_sol4, rd_sol5, rd_sol6, rd_sol7, rd_flat1, rd_flat2, rd_flat3, rd_flat4, rd_flat5, rd_asD1, rd_asD2, rd_asQ1, rd_asQ2, rd_asB, rd_asI, rd_p1, rd_p2, rd_pI0, rd_pI2, rd_pU, rd_pAdd1, rd_pAdd2, rd_pAdd3, rd_pAdd4, rd_pMul1, rd_pMul2, rd_pMul3, rd_pLen1, rd_pLen2, rd_pLen3, rd_pInt1, rd_pAbs, rd_pList1, rd_pList2, rd_pList3, rd_pCut1, rd_pCut2, rd_pCut3, rd_non1, rd_non2, rd_non3, rd_non4, rd_non5, rd_non6, rd_isStr, rd_pIx1, rd_pIx2, rd_pIx3, rd_pJoin1, rd_upS1, rd_upS2, rd_out1, rd_out2, rd_out3, rd_out4, rd_asL1, rd_asL2, rd_putL1, rd_putL2, rd_lkT1, rd_lkT2, rd_lkT3, rd_thT, rd_mvT1, rd_mvT2, rd_asDT, rd_asQT, rd_upT1, rd_upT2, rd_outT1, rd_outT2, rd_ref1, rd_ref2, rd_ref3, rd_ref4, rd_flat6, rd_flats0, rd_flats1, rd_er1, rd_er2, rd_er3, rd_er4, rd_ers0, rd_ers1, rd_ersL, rd_stA, rd_isi1, rd_isi2, rd_isi3, rd_isi4, rd_isX, rd_draw, rd_take, rd_pLt, rd_pLe, rd_pGt, rd_pGe, rd_pTuple1, rd_pTuple2, rd_pStr1, rd_pStr2, rd_pInt, rd_pIntS, rd_pIntB, rd_pOrd, rd_pMax, rd_pSplit, rd_pPart, rd_stO, rd_pCutS, rd_solB, rd_pIn1, rd_pNotIn1, rd_pIn2, rd_pIn3, rd_pNotIn2, rd_pNotIn3, rd_pBls, rd_pJoin2, rd_at0, rd_at1, rd_at2, rd_at3, rd_atL, rd_ixL, rd_pRepr, rd_pGt2, rd_pLt2, rd_pListU1, rd_pListU2, rd_pListU3, rd_pListU4, rd_pSindex, rd_pStarts, rd_f1, rd_pSort, rd_pSortD, rd_oF, rd_qF, rd_fCB, rd_cat, rd_rep, rd_rev, rd_isB, rd_notB, rd_ixA1, rd_ixA2, rd_ixA3, rd_ixA4, rd_ixA5, rd_treS1, rd_treS2, rd_setT1, rd_setT2, rd_slT1, rd_slT2, rd_slT3, rd_pListF]
    have hf0 : f = 0 := by omega
    subst hf0
    rw [Two.steps, List.append_nil] at hd
    rw [← hd]
    refine ⟨_, rfl, by omega, (most_ix ht (i := 0) (j := 0) (by omega) (by omega)).mpr ⟨rfl, by omega, h⟩⟩
def one5 : List (List Nat) := [[97], [98], [99], [], [100]]
theorem one5_eq : [D.str (Str.ofString "a"), D.str (Str.ofString "b"), D.str (Str.ofString "c"), D.str (Str.ofString ""), D.str (Str.ofString "d")] = one5.map fun w => D.str (SX.S w) := by
  simp only [one5, List.map_cons, List.map_nil, List.cons.injEq, D.str.injEq, and_true]
  decide +kernel
theorem oth3_eq : [D.str (Str.ofString "a"), D.str (Str.ofString "b"), D.str (Str.ofString "x")] = [[97], [98], [120]].map fun w => D.str (SX.S w) := by
  simp only [List.map_cons, List.map_nil, List.cons.injEq, D.str.injEq, and_true]
  decide +kernel
theorem oth4_eq : [D.str (Str.ofString "a"), D.str (Str.ofString "b"), D.str (Str.ofString "c"), D.str (Str.ofString "x")] = [[97], [98], [99], [120]].map fun w => D.str (SX.S w) := by
  simp only [List.map_cons, List.map_nil, List.cons.injEq, D.str.injEq, and_true]
  decide +kernel
theorem tx_of {ls : List (List Nat)} (h : ∀ w ∈ ls, A7 w) {d : D} (hd : d ∈ ls.map fun w => D.str (SX.S w)) : TxOk d := by
  obtain ⟨w, hw, rfl⟩ := List.mem_map.mp hd
  exact ⟨w, rfl, h w hw⟩
def M_l1 (env : Pu.Env) : Prop := ∃ n : Nat, n ≤ 41 ∧ 1 ≤ n ∧ env = [.par stA, .frz (.int n), .nil, .nil, .nil, .nil, .nil]
def M_l2 (env : Pu.Env) : Prop := ∃ (n : Nat) (a b : List D) (s3 x4 x5 : Pu.Slot), env = [.par stA, .frz (.int n), .frz (.lst a), s3, x4, x5, .nil] ∧ (s3 = .own (.lst b) ∨ s3 = .frz (.lst b)) ∧ a.length ≤ 41 ∧ b.length ≤ 82 ∧ (∀ d ∈ a, TxOk d) ∧ (∀ d ∈ b, TxOk d) ∧ frS x4 = true ∧ frS x5 = true
def I_l (n : Nat) (a : List D) (k : Nat) (env : Pu.Env) : Prop := ∃ (b : List D) (x4 x5 : Pu.Slot), env = [.par stA, .frz (.int n), .frz (.lst a), .own (.lst b), x4, x5, .nil] ∧ b.length ≤ 2 * k ∧ (∀ d ∈ b, TxOk d) ∧ frS x4 = true ∧ frS x5 = true
theorem pp_law_lists : ∀ as Q X, ps_law_lists as Q X → p_law_lists (ends 1 Q) (as ++ nils (7 - as.length)) := by
  rintro as Q X ⟨_, rfl, h⟩
  have e2 := big
  simp only [p_law_lists, c_pick, sSeq, sSet, sIf, sRet, sRetN, sNext, sBreak, sCont, sDrop, sNever, sAsg, sPar, sAug, sApp, sExt, sSetI, sForI, sWhile, sMid, sTry, sRaise, qVar, qC, qOp, qUn, qB, qAnd, qOr, qNot, qAndV, qOrV, qNotV, qIf, qNil, qCons, qCB, qTup, qLst, qCut, qPart, qNo, qM1, qM0, qCall, qChain, qXf, eQ, eVar, eC, eOp, eUn, eIf, eNil, eCons, eCB, eTup, eLst, eO, eCut, eM1, eM0, ePop, eIxV, eAnd, eOr, eNot, eAndV, eOrV, eNotV, eChain, eCutE, eNo, ePart, oSu, iS, tB', tQ, tYes', oE, oPlus, oRep, oTre, oNew, oCompT, iR3, sPut, plVar, plIx, sIns, ePopAt, eRev, oLst, oMove, oIf, oCall, oSt, oComp, iL, iT, iR1, iR2, gN, gT, gsNil, gsCons, cNil, cVal, cRef, free_0, free_succ, ends, outs, nils, resolve, putBack, allRef, refs, wipeE, pIsN, pNotN, pEq, pNe, eqOk_ii, eqOk_ss, eqOk_bb, eqOk_ni, eqOk_in, frS_frz, frS_own, frS_nil, List.replicate, List.getElem?_cons_zero, List.getElem?_cons_succ, List.set_cons_zero, List.set_cons_succ, List.cons_append, List.nil_append, List.length_cons, List.length_nil, List.take_succ_cons, List.take_zero, List.map_cons, List.map_nil, true_and, and_true, D.int.injEq, D.str.injEq, D.lst.injEq, decide_eq_true_eq, ite_true, ite_false, if_true, if_false, reduceIte, Bool.false_eq_true, false_and, and_false, Bool.not_true, Bool.not_false, Option.some.injEq, exists_eq_left', exists_eq_left, exists_and_left, List.nodup_cons, List.nodup_nil, List.not_mem_nil, not_false_eq_true, List.mem_cons, or_false, false_or, forall_eq, forall_eq_or_imp, Slot.own.injEq, Slot.par.injEq, Slot.frz.injEq, reduceCtorEq, exists_eq', exists_eq, exists_false, decide_true, decide_false, or_self, false_implies, implies_true, forall_const, eq_self, rd_lkL1, rd_lkL2, rd_lkL3, rd_lkE1, rd_lkE2, rd_thE1, rd_thE2, rd_lkF1, rd_lkX1, rd_lkX2, rd_lkX3, rd_mvS1, rd_mvS2, rd_mvE1, rd_mvE2, rd_lsO1, rd_lsO2, rd_tpO1, rd_sol1, rd_sol2, rd_sol3, rd_sol4, rd_sol5, rd_sol6, rd_sol7, rd_flat1, rd_flat2, rd_flat3, rd_flat4, rd_flat5, rd_asD1, rd_asD2, rd_asQ1, rd_asQ2, rd_asB, rd_asI, rd_p1, rd_p2, rd_pI0, rd_pI2, rd_pU, rd_pAdd1, rd_pAdd2, rd_pAdd3, rd_pAdd4, rd_pMul1, rd_pMul2, rd_pMul3, rd_pLen1, rd_pLen2, rd_pLen3, rd_pInt1, rd_pAbs, rd_pList1, rd_pList2, rd_pList3, rd_pCut1, rd_pCut2, rd_pCut3, rd_non1, rd_non2, rd_non3, rd_non4, rd_non5, rd_non6, rd_isStr, rd_pIx1, rd_pIx2, rd_pIx3, rd_pJoin1, rd_upS1, rd_upS2, rd_out1, rd_out2, rd_out3, rd_out4, rd_asL1, rd_asL2, rd_putL1, rd_putL2, rd_lkT1, rd_lkT2, rd_lkT3, rd_thT, rd_mvT1, rd_mvT2, rd_asDT, rd_asQT, rd_upT1, rd_upT2, rd_outT1, rd_outT2, rd_ref1, rd_ref2, rd_ref3, rd_ref4, rd_flat6, rd_flats0, rd_flats1, rd_er1, rd_er2, rd_er3, rd_er4, rd_ers0, rd_ers1, rd_ersL, rd_stA, rd_isi1, rd_isi2, rd_isi3, rd_isi4, rd_isX, rd_draw, rd_take, rd_pLt, rd_pLe, rd_pGt, rd_pGe, rd_pTuple1, rd_pTuple2, rd_pStr1, rd_pStr2, rd_pInt, rd_pIntS, rd_pIntB, rd_pOrd, rd_pMax, rd_pSplit, rd_pPart, rd_stO, rd_pCutS, rd_solB, rd_pIn1, rd_pNotIn1, rd_pIn2, rd_pIn3, rd_pNotIn2, rd_pNotIn3, rd_pBls, rd_pJoin2, rd_at0, rd_at1, rd_at2, rd_at3, rd_atL, rd_ixL, rd_pRepr, rd_pGt2, rd_pLt2, rd_pListU1, rd_pListU2, rd_pListU3, rd_pListU4, rd_pSindex, rd_pStarts, rd_f1, rd_pSort, rd_pSortD, rd_oF, rd_qF, rd_fCB, rd_cat, rd_rep, rd_rev, rd_isB, rd_notB, rd_ixA1, rd_ixA2, rd_ixA3, rd_ixA4, rd_ixA5, rd_treS1, rd_treS2, rd_setT1, rd_setT2, rd_slT1, rd_slT2, rd_slT3, rd_pListF]
  refine ⟨M_l1, ⟨by omega, fun v h0 h1 => ?_⟩, ?_⟩
  · split
    · exact ⟨13, by omega, by omega, rfl⟩
    · exact ⟨41, by omega, by omega, rfl⟩
  rintro env ⟨n, n1, n2, rfl⟩
  simp only [c_pick, sSeq, sSet, sIf, sRet, sRetN, sNext, sBreak, sCont, sDrop, sNever, sAsg, sPar, sAug, sApp, sExt, sSetI, sForI, sWhile, sMid, sTry, sRaise, qVar, qC, qOp, qUn, qB, qAnd, qOr, qNot, qAndV, qOrV, qNotV, qIf, qNil, qCons, qCB, qTup, qLst, qCut, qPart, qNo, qM1, qM0, qCall, qChain, qXf, eQ, eVar, eC, eOp, eUn, eIf, eNil, eCons, eCB, eTup, eLst, eO, eCut, eM1, eM0, ePop, eIxV, eAnd, eOr, eNot, eAndV, eOrV, eNotV, eChain, eCutE, eNo, ePart, oSu, iS, tB', tQ, tYes', oE, oPlus, oRep, oTre, oNew, oCompT, iR3, sPut, plVar, plIx, sIns, ePopAt, eRev, oLst, oMove, oIf, oCall, oSt, oComp, iL, iT, iR1, iR2, gN, gT, gsNil, gsCons, cNil, cVal, cRef, free_0, free_succ, ends, outs, nils, resolve, putBack, allRef, refs, wipeE, pIsN, pNotN, pEq, pNe, eqOk_ii, eqOk_ss, eqOk_bb, eqOk_ni, eqOk_in, frS_frz, frS_own, frS_nil, List.replicate, List.getElem?_cons_zero, List.getElem?_cons_succ, List.set_cons_zero, List.set_cons_succ, List.cons_append, List.nil_append, List.length_cons, List.length_nil, List.take_succ_cons, List.take_zero, List.map_cons, List.map_nil, true_and, and_true, D.int.injEq, D.str.injEq, D.lst.injEq, decide_eq_true_eq, ite_true, ite_false, if_true, if_false, reduceIte, Bool.false_eq_true, false_and, and_false, Bool.not_true, Bool.not_false, Option.some.injEq, exists_eq_left', exists_eq_left, exists_and_left, List.nodup_cons, List.nodup_nil, List.not_mem_nil, not_false_eq_true, List.mem_cons, or_false, false_or, forall_eq, forall_eq_or_imp, Slot.own.injEq, Slot.par.injEq, Slot.frz.injEq, reduceCtorEq, exists_eq', exists_eq, exists_false, decide_true, decide_false, or_self, false_implies, implies_true, forall_const, eq_self, rd_lkL1, rd_lkL2, rd_lkL3, rd_lkE1, rd_lkE2, rd_thE1, rd_thE2, rd_lkF1, rd_lkX1, rd_lkX2, rd_lkX3, rd_mvS1, rd_mvS2, rd_mvE1, rd_mvE2, rd_lsO1, rd_lsO2, rd_tpO1, rd_sol1, rd_sol2, rd_sol3, rd_sol4, rd_sol5, rd_sol6, rd_sol7, rd_flat1, rd_flat2, rd_flat3, rd_flat4, rd_flat5, rd_asD1, rd_asD2, rd_asQ1, rd_asQ2, rd_asB, rd_asI, rd_p1, rd_p2, rd_pI0, rd_pI2, rd_pU, rd_pAdd1, rd_pAdd2, rd_pAdd3, rd_pAdd4, rd_pMul1, rd_pMul2, rd_pMul3, rd_pLen1, rd_pLen2, rd_pLen3, rd_pInt1, rd_pAbs, rd_pList1, rd_pList2, rd_pList3, rd_pCut1, rd_pCut2, rd_pCut3, rd_non1, rd_non2, rd_non3, rd_non4, rd_non5, rd_non6, rd_isStr, rd_pIx1, rd_pIx2, rd_pIx3, rd_pJoin1, rd_upS1, rd_upS2, rd_out1, rd_out2, rd_out3, rd_out4, rd_asL1, rd_asL2, rd_putL1, rd_putL2, rd_lkT1, rd_lkT2, rd_lkT3, rd_thT, rd_mvT1, rd_mvT2, rd_asDT, rd_asQT, rd_upT1, rd_upT2, rd_outT1, rd_outT2, rd_ref1, rd_ref2, rd_ref3, rd_ref4, rd_flat6, rd_flats0, rd_flats1, rd_er1, rd_er2, rd_er3, rd_er4, rd_ers0, rd_ers1, rd_ersL, rd_stA, rd_isi1, rd_isi2, rd_isi3, rd_isi4, rd_isX, rd_draw, rd_take, rd_pLt, rd_pLe, rd_pGt, rd_pGe, rd_pTuple1, rd_pTuple2, rd_pStr1, rd_pStr2, rd_pInt, rd_pIntS, rd_pIntB, rd_pOrd, rd_pMax, rd_pSplit, rd_pPart, rd_stO, rd_pCutS, rd_solB, rd_pIn1, rd_pNotIn1, rd_pIn2, rd_pIn3, rd_pNotIn2, rd_pNotIn3, rd_pBls, rd_pJoin2, rd_at0, rd_at1, rd_at2, rd_at3, rd_atL, rd_ixL, rd_pRepr, rd_pGt2, rd_pLt2, rd_pListU1, rd_pListU2, rd_pListU3, rd_pListU4, rd_pSindex, rd_pStarts, rd_f1, rd_pSort, rd_pSortD, rd_oF, rd_qF, rd_fCB, rd_cat, rd_rep, rd_rev, rd_isB, rd_notB, rd_ixA1, rd_ixA2, rd_ixA3, rd_ixA4, rd_ixA5, rd_treS1, rd_treS2, rd_setT1, rd_setT2, rd_slT1, rd_slT2, rd_slT3, rd_pListF]
  refine ⟨by omega, fun v h0 h1 => ⟨by omega, ?_⟩⟩
  refine comp_rel (fun _ y => TxOk y) (by rw [rng_len]; omega) (fun d hd K k => ?_) (fun a ha hma => ?_)
  · obtain ⟨c, hc, rfl⟩ := List.mem_map.mp hd
    simp only [c_pick, one5_eq, sSeq, sSet, sIf, sRet, sRetN, sNext, sBreak, sCont, sDrop, sNever, sAsg, sPar, sAug, sApp, sExt, sSetI, sForI, sWhile, sMid, sTry, sRaise, qVar, qC, qOp, qUn, qB, qAnd, qOr, qNot, qAndV, qOrV, qNotV, qIf, qNil, qCons, qCB, qTup, qLst, qCut, qPart, qNo, qM1, qM0, qCall, qChain, qXf, eQ, eVar, eC, eOp, eUn, eIf, eNil, eCons, eCB, eTup, eLst, eO, eCut, eM1, eM0, ePop, eIxV, eAnd, eOr, eNot, eAndV, eOrV, eNotV, eChain, eCutE, eNo, ePart, oSu, iS, tB', tQ, tYes', oE, oPlus, oRep, oTre, oNew, oCompT, iR3, sPut, plVar, plIx, sIns, ePopAt, eRev, oLst, oMove, oIf, oCall, oSt, oComp, iL, iT, iR1, iR2, gN, gT, gsNil, gsCons, cNil, cVal, cRef, free_0, free_succ, ends, outs, nils, resolve, putBack, allRef, refs, wipeE, pIsN, pNotN, pEq, pNe, eqOk_ii, eqOk_ss, eqOk_bb, eqOk_ni, eqOk_in, frS_frz, frS_own, frS_nil, List.replicate, List.getElem?_cons_zero, List.getElem?_cons_succ, List.set_cons_zero, List.set_cons_succ, List.cons_append, List.nil_append, List.length_cons, List.length_nil, List.take_succ_cons, List.take_zero, List.map_cons, List.map_nil, true_and, and_true, D.int.injEq, D.str.injEq, D.lst.injEq, decide_eq_true_eq, ite_true, ite_false, if_true, if_false, reduceIte, Bool.false_eq_true, false_and, and_false, Bool.not_true, Bool.not_false, Option.some.injEq, exists_eq_left', exists_eq_left, exists_and_left, List.nodup_cons, List.nodup_nil, List.not_mem_nil, not_false_eq_true, List.mem_cons, or_false, false_or, forall_eq, forall_eq_or_imp, Slot.own.injEq, Slot.par.injEq, Slot.frz.injEq, reduceCtorEq, exists_eq', exists_eq, exists_false, decide_true, decide_false, or_self, false_implies, implies_true, forall_const, eq_self, rd_lkL1, rd_lkL2, rd_lkL3, rd_lkE1, rd_lkE2, rd_thE1, rd_thE2, rd_lkF1, rd_lkX1, rd_lkX2, rd_lkX3, rd_mvS1, rd_mvS2, rd_mvE1, rd_mvE2, rd_lsO1, rd_lsO2, rd_tpO1, rd_sol1, rd_sol2, rd_sol3, rd_sol4, rd_sol5, rd_sol6, rd_sol7, rd_flat1, rd_flat2, rd_flat3, rd_flat4, rd_flat5, rd_asD1, rd_asD2, rd_asQ1, rd_asQ2, rd_asB, rd_asI, rd_p1, rd_p2, rd_pI0, rd_pI2, rd_pU, rd_pAdd1, rd_pAdd2, rd_pAdd3, rd_pAdd4, rd_pMul1, rd_pMul2, rd_pMul3, rd_pLen1, rd_pLen2, rd_pLen3, rd_pInt1, rd_pAbs, rd_pList1, rd_pList2, rd_pList3, rd_pCut1, rd_pCut2, rd_pCut3, rd_non1, rd_non2, rd_non3, rd_non4, rd_non5, rd_non6, rd_isStr, rd_pIx1, rd_pIx2, rd_pIx3, rd_pJoin1, rd_upS1, rd_upS2, rd_out1, rd_out2, rd_out3, rd_out4, rd_asL1, rd_asL2, rd_putL1, rd_putL2, rd_lkT1, rd_lkT2, rd_lkT3, rd_thT, rd_mvT1, rd_mvT2, rd_asDT, rd_asQT, rd_upT1, rd_upT2, rd_outT1, rd_outT2, rd_ref1, rd_ref2, rd_ref3, rd_ref4, rd_flat6, rd_flats0, rd_flats1, rd_er1, rd_er2, rd_er3, rd_er4, rd_ers0, rd_ers1, rd_ersL, rd_stA, rd_isi1, rd_isi2, rd_isi3, rd_isi4, rd_isX, rd_draw, rd_take, rd_pLt, rd_pLe, rd_pGt, rd_pGe, rd_pTuple1, rd_pTuple2, rd_pStr1, rd_pStr2, rd_pInt, rd_pIntS, rd_pIntB, rd_pOrd, rd_pMax, rd_pSplit, rd_pPart, rd_stO, rd_pCutS, rd_solB, rd_pIn1, rd_pNotIn1, rd_pIn2, rd_pIn3, rd_pNotIn2, rd_pNotIn3, rd_pBls, rd_pJoin2, rd_at0, rd_at1, rd_at2, rd_at3, rd_atL, rd_ixL, rd_pRepr, rd_pGt2, rd_pLt2, rd_pListU1, rd_pListU2, rd_pListU3, rd_pListU4, rd_pSindex, rd_pStarts, rd_f1, rd_pSort, rd_pSortD, rd_oF, rd_qF, rd_fCB, rd_cat, rd_rep, rd_rev, rd_isB, rd_notB, rd_ixA1, rd_ixA2, rd_ixA3, rd_ixA4, rd_ixA5, rd_treS1, rd_treS2, rd_setT1, rd_setT2, rd_slT1, rd_slT2, rd_slT3, rd_pListF]
    refine ⟨by simp [one5]; omega, by simp [one5], by simp [one5], fun d hd => k d (tx_of (by unfold A7; decide) hd)⟩
  have hta : ∀ d ∈ a, TxOk d := fun d hd => by obtain ⟨_, _, q⟩ := hma d hd; exact q
  rw [rng_len] at ha
  simp only [sSeq, sSet, sIf, sRet, sRetN, sNext, sBreak, sCont, sDrop, sNever, sAsg, sPar, sAug, sApp, sExt, sSetI, sForI, sWhile, sMid, sTry, sRaise, qVar, qC, qOp, qUn, qB, qAnd, qOr, qNot, qAndV, qOrV, qNotV, qIf, qNil, qCons, qCB, qTup, qLst, qCut, qPart, qNo, qM1, qM0, qCall, qChain, qXf, eQ, eVar, eC, eOp, eUn, eIf, eNil, eCons, eCB, eTup, eLst, eO, eCut, eM1, eM0, ePop, eIxV, eAnd, eOr, eNot, eAndV, eOrV, eNotV, eChain, eCutE, eNo, ePart, oSu, iS, tB', tQ, tYes', oE, oPlus, oRep, oTre, oNew, oCompT, iR3, sPut, plVar, plIx, sIns, ePopAt, eRev, oLst, oMove, oIf, oCall, oSt, oComp, iL, iT, iR1, iR2, gN, gT, gsNil, gsCons, cNil, cVal, cRef, free_0, free_succ, ends, outs, nils, resolve, putBack, allRef, refs, wipeE, pIsN, pNotN, pEq, pNe, eqOk_ii, eqOk_ss, eqOk_bb, eqOk_ni, eqOk_in, frS_frz, frS_own, frS_nil, List.replicate, List.getElem?_cons_zero, List.getElem?_cons_succ, List.set_cons_zero, List.set_cons_succ, List.cons_append, List.nil_append, List.length_cons, List.length_nil, List.take_succ_cons, List.take_zero, List.map_cons, List.map_nil, true_and, and_true, D.int.injEq, D.str.injEq, D.lst.injEq, decide_eq_true_eq, ite_true, ite_false, if_true, if_false, reduceIte, Bool.false_eq_true, false_and, and_false, Bool.not_true, Bool.not_false, Option.some.injEq, exists_eq_left', exists_eq_left, exists_and_left, List.nodup_cons, List.nodup_nil, List.not_mem_nil, not_false_eq_true, List.mem_cons, or_false, false_or, forall_eq, forall_eq_or_imp, Slot.own.injEq, Slot.par.injEq, Slot.frz.injEq, reduceCtorEq, exists_eq', exists_eq, exists_false, decide_true, decide_false, or_self, false_implies, implies_true, forall_const, eq_self, rd_lkL1, rd_lkL2, rd_lkL3, rd_lkE1, rd_lkE2, rd_thE1, rd_thE2, rd_lkF1, rd_lkX1, rd_lkX2, rd_lkX3, rd_mvS1, rd_mvS2, rd_mvE1, rd_mvE2, rd_lsO1, rd_lsO2, rd_tpO1, rd_sol1, rd_sol2, rd_sol3, rd_sol4, rd_sol5, rd_sol6, rd_sol7, rd_flat1, rd_flat2, rd_flat3, rd_flat4, rd_flat5, rd_asD1, rd_asD2, rd_asQ1, rd_asQ2, rd_asB, rd_asI, rd_p1, rd_p2, rd_pI0, rd_pI2, rd_pU, rd_pAdd1, rd_pAdd2, rd_pAdd3, rd_pAdd4, rd_pMul1, rd_pMul2, rd_pMul3, rd_pLen1, rd_pLen2, rd_pLen3, rd_pInt1, rd_pAbs, rd_pList1, rd_pList2, rd_pList3, rd_pCut1, rd_pCut2, rd_pCut3, rd_non1, rd_non2, rd_non3, rd_non4, rd_non5, rd_non6, rd_isStr, rd_pIx1, rd_pIx2, rd_pIx3, rd_pJoin1, rd_upS1, rd_upS2, rd_out1, rd_out2, rd_out3, rd_out4, rd_asL1, rd_asL2, rd_putL1, rd_putL2, rd_lkT1, rd_lkT2, rd_lkT3, rd_thT, rd_mvT1, rd_mvT2, rd_asDT, rd_asQT, rd_upT1, rd_upT2, rd_outT1, rd_outT2, rd_ref1, rd_ref2, rd_ref3, rd_ref4, rd_flat6, rd_flats0, rd_flats1, rd_er1, rd_er2, rd_er3, rd_er4, rd_ers0, rd_ers1, rd_ersL, rd_stA, rd_isi1, rd_isi2, rd_isi3, rd_isi4, rd_isX, rd_draw, rd_take, rd_pLt, rd_pLe, rd_pGt, rd_pGe, rd_pTuple1, rd_pTuple2, rd_pStr1, rd_pStr2, rd_pInt, rd_pIntS, rd_pIntB, rd_pOrd, rd_pMax, rd_pSplit, rd_pPart, rd_stO, rd_pCutS, rd_solB, rd_pIn1, rd_pNotIn1, rd_pIn2, rd_pIn3, rd_pNotIn2, rd_pNotIn3, rd_pBls, rd_pJoin2, rd_at0, rd_at1, rd_at2, rd_at3, rd_atL, rd_ixL, rd_pRepr, rd_pGt2, rd_pLt2, rd_pListU1, rd_pListU2, rd_pListU3, rd_pListU4, rd_pSindex, rd_pStarts, rd_f1, rd_pSort, rd_pSortD, rd_oF, rd_qF, rd_fCB, rd_cat, rd_rep, rd_rev, rd_isB, rd_notB, rd_ixA1, rd_ixA2, rd_ixA3, rd_ixA4, rd_ixA5, rd_treS1, rd_treS2, rd_setT1, rd_setT2, rd_slT1, rd_slT2, rd_slT3, rd_pListF]
  refine ⟨by omega, I_l n a, ⟨[], .nil, .nil, rfl, by simp, by simp, rfl, rfl⟩, ?_⟩
  rintro i env ⟨b, x4, x5, rfl, hb, htb, f4, f5⟩
  refine ⟨fun d hd => ?_, fun hi => ?_⟩
  · have hd' := List.mem_of_getElem? hd
    obtain ⟨hi, _⟩ := List.getElem?_eq_some_iff.mp hd
    simp only [f4, f5, sSeq, sSet, sIf, sRet, sRetN, sNext, sBreak, sCont, sDrop, sNever, sAsg, sPar, sAug, sApp, sExt, sSetI, sForI, sWhile, sMid, sTry, sRaise, qVar, qC, qOp, qUn, qB, qAnd, qOr, qNot, qAndV, qOrV, qNotV, qIf, qNil, qCons, qCB, qTup, qLst, qCut, qPart, qNo, qM1, qM0, qCall, qChain, qXf, eQ, eVar, eC, eOp, eUn, eIf, eNil, eCons, eCB, eTup, eLst, eO, eCut, eM1, eM0, ePop, eIxV, eAnd, eOr, eNot, eAndV, eOrV, eNotV, eChain, eCutE, eNo, ePart, oSu, iS, tB', tQ, tYes', oE, oPlus, oRep, oTre, oNew, oCompT, iR3, sPut, plVar, plIx, sIns, ePopAt, eRev, oLst, oMove, oIf, oCall, oSt, oComp, iL, iT, iR1, iR2, gN, gT, gsNil, gsCons, cNil, cVal, cRef, free_0, free_succ, ends, outs, nils, resolve, putBack, allRef, refs, wipeE, pIsN, pNotN, pEq, pNe, eqOk_ii, eqOk_ss, eqOk_bb, eqOk_ni, eqOk_in, frS_frz, frS_own, frS_nil, List.replicate, List.getElem?_cons_zero, List.getElem?_cons_succ, List.set_cons_zero, List.set_cons_succ, List.cons_append, List.nil_append, List.length_cons, List.length_nil, List.take_succ_cons, List.take_zero, List.map_cons, List.map_nil, true_and, and_true, D.int.injEq, D.str.injEq, D.lst.injEq, decide_eq_true_eq, ite_true, ite_false, if_true, if_false, reduceIte, Bool.false_eq_true, false_and, and_false, Bool.not_true, Bool.not_false, Option.some.injEq, exists_eq_left', exists_eq_left, exists_and_left, List.nodup_cons, List.nodup_nil, List.not_mem_nil, not_false_eq_true, List.mem_cons, or_false, false_or, forall_eq, forall_eq_or_imp, Slot.own.injEq, Slot.par.injEq, Slot.frz.injEq, reduceCtorEq, exists_eq', exists_eq, exists_false, decide_true, decide_false, or_self, false_implies, implies_true, forall_const, eq_self, rd_lkL1, rd_lkL2, rd_lkL3, rd_lkE1, rd_lkE2, rd_thE1, rd_thE2, rd_lkF1, rd_lkX1, rd_lkX2, rd_lkX3, rd_mvS1, rd_mvS2, rd_mvE1, rd_mvE2, rd_lsO1, rd_lsO2, rd_tpO1, rd_sol1, rd_sol2, rd_sol3, rd_sol4, rd_sol5, rd_sol6, rd_sol7, rd_flat1, rd_flat2, rd_flat3, rd_flat4, rd_flat5, rd_asD1, rd_asD2, rd_asQ1, rd_asQ2, rd_asB, rd_asI, rd_p1, rd_p2, rd_pI0, rd_pI2, rd_pU, rd_pAdd1, rd_pAdd2, rd_pAdd3, rd_pAdd4, rd_pMul1, rd_pMul2, rd_pMul3, rd_pLen1, rd_pLen2, rd_pLen3, rd_pInt1, rd_pAbs, rd_pList1, rd_pList2, rd_pList3, rd_pCut1, rd_pCut2, rd_pCut3, rd_non1, rd_non2, rd_non3, rd_non4, rd_non5, rd_non6, rd_isStr, rd_pIx1, rd_pIx2, rd_pIx3, rd_pJoin1, rd_upS1, rd_upS2, rd_out1, rd_out2, rd_out3, rd_out4, rd_asL1, rd_asL2, rd_putL1, rd_putL2, rd_lkT1, rd_lkT2, rd_lkT3, rd_thT, rd_mvT1, rd_mvT2, rd_asDT, rd_asQT, rd_upT1, rd_upT2, rd_outT1, rd_outT2, rd_ref1, rd_ref2, rd_ref3, rd_ref4, rd_flat6, rd_flats0, rd_flats1, rd_er1, rd_er2, rd_er3, rd_er4, rd_ers0, rd_ers1, rd_ersL, rd_stA, rd_isi1, rd_isi2, rd_isi3, rd_isi4, rd_isX, rd_draw, rd_take, rd_pLt, rd_pLe, rd_pGt, rd_pGe, rd_pTuple1, rd_pTuple2, rd_pStr1, rd_pStr2, rd_pInt, rd_pIntS, rd_pIntB, rd_pOrd, rd_pMax, rd_pSplit, rd_pPart, rd_stO, rd_pCutS, rd_solB, rd_pIn1, rd_pNotIn1, rd_pIn2, rd_pIn3, rd_pNotIn2, rd_pNotIn3, rd_pBls, rd_pJoin2, rd_at0, rd_at1, rd_at2, rd_at3, rd_atL, rd_ixL, rd_pRepr, rd_pGt2, rd_pLt2, rd_pListU1, rd_pListU2, rd_pListU3, rd_pListU4, rd_pSindex, rd_pStarts, rd_f1, rd_pSort, rd_pSortD, rd_oF, rd_qF, rd_fCB, rd_cat, rd_rep, rd_rev, rd_isB, rd_notB, rd_ixA1, rd_ixA2, rd_ixA3, rd_ixA4, rd_ixA5, rd_treS1, rd_treS2, rd_setT1, rd_setT2, rd_slT1, rd_slT2, rd_slT3, rd_pListF]
    refine ⟨by omega, fun u g0 g1 => ?_⟩
    have td := hta d hd'
    have base : ∀ (c : List D), c.length ≤ b.length + 2 → (∀ x ∈ c, TxOk x) → I_l n a (i + 1) [.par stA, .frz (.int n), .frz (.lst a), .own (.lst c), .frz d, .frz (.int u), .nil] := fun c h1 h2 => ⟨c, _, _, rfl, by omega, h2, rfl, rfl⟩
    split
    · refine ⟨by omega, ?_⟩
      have t1 : ∀ x ∈ b ++ [d], TxOk x := fun x hx => by
        rcases List.mem_append.mp hx with q | q
        · exact htb x q
        · rw [List.mem_singleton] at q; rw [q]; exact td
      split
      · simp only [c_pick, oth3_eq, sSeq, sSet, sIf, sRet, sRetN, sNext, sBreak, sCont, sDrop, sNever, sAsg, sPar, sAug, sApp, sExt, sSetI, sForI, sWhile, sMid, sTry, sRaise, qVar, qC, qOp, qUn, qB, qAnd, qOr, qNot, qAndV, qOrV, qNotV, qIf, qNil, qCons, qCB, qTup, qLst, qCut, qPart, qNo, qM1, qM0, qCall, qChain, qXf, eQ, eVar, eC, eOp, eUn, eIf, eNil, eCons, eCB, eTup, eLst, eO, eCut, eM1, eM0, ePop, eIxV, eAnd, eOr, eNot, eAndV, eOrV, eNotV, eChain, eCutE, eNo, ePart, oSu, iS, tB', tQ, tYes', oE, oPlus, oRep, oTre, oNew, oCompT, iR3, sPut, plVar, plIx, sIns, ePopAt, eRev, oLst, oMove, oIf, oCall, oSt, oComp, iL, iT, iR1, iR2, gN, gT, gsNil, gsCons, cNil, cVal, cRef, free_0, free_succ, ends, outs, nils, resolve, putBack, allRef, refs, wipeE, pIsN, pNotN, pEq, pNe, eqOk_ii, eqOk_ss, eqOk_bb, eqOk_ni, eqOk_in, frS_frz, frS_own, frS_nil, List.replicate, List.getElem?_cons_zero, List.getElem?_cons_succ, List.set_cons_zero, List.set_cons_succ, List.cons_append, List.nil_append, List.length_cons, List.length_nil, List.take_succ_cons, List.take_zero, List.map_cons, List.map_nil, true_and, and_true, D.int.injEq, D.str.injEq, D.lst.injEq, decide_eq_true_eq, ite_true, ite_false, if_true, if_false, reduceIte, Bool.false_eq_true, false_and, and_false, Bool.not_true, Bool.not_false, Option.some.injEq, exists_eq_left', exists_eq_left, exists_and_left, List.nodup_cons, List.nodup_nil, List.not_mem_nil, not_false_eq_true, List.mem_cons, or_false, false_or, forall_eq, forall_eq_or_imp, Slot.own.injEq, Slot.par.injEq, Slot.frz.injEq, reduceCtorEq, exists_eq', exists_eq, exists_false, decide_true, decide_false, or_self, false_implies, implies_true, forall_const, eq_self, rd_lkL1, rd_lkL2, rd_lkL3, rd_lkE1, rd_lkE2, rd_thE1, rd_thE2, rd_lkF1, rd_lkX1, rd_lkX2, rd_lkX3, rd_mvS1, rd_mvS2, rd_mvE1, rd_mvE2, rd_lsO1, rd_lsO2, rd_tpO1, rd_sol1, rd_sol2, rd_sol3, rd_sol4, rd_sol5, rd_sol6, rd_sol7, rd_flat1, rd_flat2, rd_flat3, rd_flat4, rd_flat5, rd_asD1, rd_asD2, rd_asQ1, rd_asQ2, rd_asB, rd_asI, rd_p1, rd_p2, rd_pI0, rd_pI2, rd_pU, rd_pAdd1, rd_pAdd2, rd_pAdd3, rd_pAdd4, rd_pMul1, rd_pMul2, rd_pMul3, rd_pLen1, rd_pLen2, rd_pLen3, rd_pInt1, rd_pAbs, rd_pList1, rd_pList2, rd_pList3, rd_pCut1, rd_pCut2, rd_pCut3, rd_non1, rd_non2, rd_non3, rd_non4, rd_non5, rd_non6, rd_isStr, rd_pIx1, rd_pIx2, rd_pIx3, rd_pJoin1, rd_upS1, rd_upS2, rd_out1, rd_out2, rd_out3, rd_out4, rd_asL1, rd_asL2, rd_putL1, rd_putL2, rd_lkT1, rd_lkT2, rd_lkT3, rd_thT, rd_mvT1, rd_mvT2, rd_asDT, rd_asQT, rd_upT1, rd_upT2, rd_outT1, rd_outT2, rd_ref1, rd_ref2, rd_ref3, rd_ref4, rd_flat6, rd_flats0, rd_flats1, rd_er1, rd_er2, rd_er3, rd_er4, rd_ers0, rd_ers1, rd_ersL, rd_stA, rd_isi1, rd_isi2, rd_isi3, rd_isi4, rd_isX, rd_draw, rd_take, rd_pLt, rd_pLe, rd_pGt, rd_pGe, rd_pTuple1, rd_pTuple2, rd_pStr1, rd_pStr2, rd_pInt, rd_pIntS, rd_pIntB, rd_pOrd, rd_pMax, rd_pSplit, rd_pPart, rd_stO, rd_pCutS, rd_solB, rd_pIn1, rd_pNotIn1, rd_pIn2, rd_pIn3, rd_pNotIn2, rd_pNotIn3, rd_pBls, rd_pJoin2, rd_at0, rd_at1, rd_at2, rd_at3, rd_atL, rd_ixL, rd_pRepr, rd_pGt2, rd_pLt2, rd_pListU1, rd_pListU2, rd_pListU3, rd_pListU4, rd_pSindex, rd_pStarts, rd_f1, rd_pSort, rd_pSortD, rd_oF, rd_qF, rd_fCB, rd_cat, rd_rep, rd_rev, rd_isB, rd_notB, rd_ixA1, rd_ixA2, rd_ixA3, rd_ixA4, rd_ixA5, rd_treS1, rd_treS2, rd_setT1, rd_setT2, rd_slT1, rd_slT2, rd_slT3, rd_pListF]
        refine ⟨by simp; omega, by simp, by simp, fun y hy => ?_⟩
        refine ⟨by simp; omega, base _ (by simp) fun x hx => ?_⟩
        rcases List.mem_append.mp hx with q | q
        · exact t1 x q
        · rw [List.mem_singleton] at q; rw [q]; exact tx_of (ls := [[97], [98], [120]]) (by unfold A7; decide) hy
      · exact base _ (by simp) t1
    · split
      · rename_i q1 q2
        exact absurd q2 (by omega)
      · exact base _ (by omega) htb
  · subst hi
    simp only [f4, f5, sSeq, sSet, sIf, sRet, sRetN, sNext, sBreak, sCont, sDrop, sNever, sAsg, sPar, sAug, sApp, sExt, sSetI, sForI, sWhile, sMid, sTry, sRaise, qVar, qC, qOp, qUn, qB, qAnd, qOr, qNot, qAndV, qOrV, qNotV, qIf, qNil, qCons, qCB, qTup, qLst, qCut, qPart, qNo, qM1, qM0, qCall, qChain, qXf, eQ, eVar, eC, eOp, eUn, eIf, eNil, eCons, eCB, eTup, eLst, eO, eCut, eM1, eM0, ePop, eIxV, eAnd, eOr, eNot, eAndV, eOrV, eNotV, eChain, eCutE, eNo, ePart, oSu, iS, tB', tQ, tYes', oE, oPlus, oRep, oTre, oNew, oCompT, iR3, sPut, plVar, plIx, sIns, ePopAt, eRev, oLst, oMove, oIf, oCall, oSt, oComp, iL, iT, iR1, iR2, gN, gT, gsNil, gsCons, cNil, cVal, cRef, free_0, free_succ, ends, outs, nils, resolve, putBack, allRef, refs, wipeE, pIsN, pNotN, pEq, pNe, eqOk_ii, eqOk_ss, eqOk_bb, eqOk_ni, eqOk_in, frS_frz, frS_own, frS_nil, List.replicate, List.getElem?_cons_zero, List.getElem?_cons_succ, List.set_cons_zero, List.set_cons_succ, List.cons_append, List.nil_append, List.length_cons, List.length_nil, List.take_succ_cons, List.take_zero, List.map_cons, List.map_nil, true_and, and_true, D.int.injEq, D.str.injEq, D.lst.injEq, decide_eq_true_eq, ite_true, ite_false, if_true, if_false, reduceIte, Bool.false_eq_true, false_and, and_false, Bool.not_true, Bool.not_false, Option.some.injEq, exists_eq_left', exists_eq_left, exists_and_left, List.nodup_cons, List.nodup_nil, List.not_mem_nil, not_false_eq_true, List.mem_cons, or_false, false_or, forall_eq, forall_eq_or_imp, Slot.own.injEq, Slot.par.injEq, Slot.frz.injEq, reduceCtorEq, exists_eq', exists_eq, exists_false, decide_true, decide_false, or_self, false_implies, implies_true, forall_const, eq_self, rd_lkL1, rd_lkL2, rd_lkL3, rd_lkE1, rd_lkE2, rd_thE1, rd_thE2, rd_lkF1, rd_lkX1, rd_lkX2, rd_lkX3, rd_mvS1, rd_mvS2, rd_mvE1, rd_mvE2, rd_lsO1, rd_lsO2, rd_tpO1, rd_sol1, rd_sol2, rd_sol3, rd_sol4, rd_sol5, rd_sol6, rd_sol7, rd_flat1, rd_flat2, rd_flat3, rd_flat4, rd_flat5, rd_asD1, rd_asD2, rd_asQ1, rd_asQ2, rd_asB, rd_asI, rd_p1, rd_p2, rd_pI0, rd_pI2, rd_pU, rd_pAdd1, rd_pAdd2, rd_pAdd3, rd_pAdd4, rd_pMul1, rd_pMul2, rd_pMul3, rd_pLen1, rd_pLen2, rd_pLen3, rd_pInt1, rd_pAbs, rd_pList1, rd_pList2, rd_pList3, rd_pCut1, rd_pCut2, rd_pCut3, rd_non1, rd_non2, rd_non3, rd_non4, rd_non5, rd_non6, rd_isStr, rd_pIx1, rd_pIx2, rd_pIx3, rd_pJoin1, rd_upS1, rd_upS2, rd_out1, rd_out2, rd_out3, rd_out4, rd_asL1, rd_asL2, rd_putL1, rd_putL2, rd_lkT1, rd_lkT2, rd_lkT3, rd_thT, rd_mvT1, rd_mvT2, rd_asDT, rd_asQT, rd_upT1, rd_upT2, rd_outT1, rd_outT2, rd_ref1, rd_ref2, rd_ref3, rd_ref4, rd_flat6, rd_flats0, rd_flats1, rd_er1, rd_er2, rd_er3, rd_er4, rd_ers0, rd_ers1, rd_ersL, rd_stA, rd_isi1, rd_isi2, rd_isi3, rd_isi4, rd_isX, rd_draw, rd_take, rd_pLt, rd_pLe, rd_pGt, rd_pGe, rd_pTuple1, rd_pTuple2, rd_pStr1, rd_pStr2, rd_pInt, rd_pIntS, rd_pIntB, rd_pOrd, rd_pMax, rd_pSplit, rd_pPart, rd_stO, rd_pCutS, rd_solB, rd_pIn1, rd_pNotIn1, rd_pIn2, rd_pIn3, rd_pNotIn2, rd_pNotIn3, rd_pBls, rd_pJoin2, rd_at0, rd_at1, rd_at2, rd_at3, rd_atL, rd_ixL, rd_pRepr, rd_pGt2, rd_pLt2, rd_pListU1, rd_pListU2, rd_pListU3, rd_pListU4, rd_pSindex, rd_pStarts, rd_f1, rd_pSort, rd_pSortD, rd_oF, rd_qF, rd_fCB, rd_cat, rd_rep, rd_rev, rd_isB, rd_notB, rd_ixA1, rd_ixA2, rd_ixA3, rd_ixA4, rd_ixA5, rd_treS1, rd_treS2, rd_setT1, rd_setT2, rd_slT1, rd_slT2, rd_slT3, rd_pListF]
    refine ⟨M_l2, ⟨by omega, fun u g0 g1 => ?_⟩, ?_⟩
    · split
      · refine ⟨by omega, fun u2 g2 g3 => ⟨by omega, ?_⟩⟩
        refine comp_rel (fun _ y => TxOk y) (by rw [rng_len]; omega) (fun d hd K k => ?_) (fun b2 hb2 hmb => ?_)
        · obtain ⟨c, hc, rfl⟩ := List.mem_map.mp hd
          simp only [f4, f5, c_pick, oth4_eq, sSeq, sSet, sIf, sRet, sRetN, sNext, sBreak, sCont, sDrop, sNever, sAsg, sPar, sAug, sApp, sExt, sSetI, sForI, sWhile, sMid, sTry, sRaise, qVar, qC, qOp, qUn, qB, qAnd, qOr, qNot, qAndV, qOrV, qNotV, qIf, qNil, qCons, qCB, qTup, qLst, qCut, qPart, qNo, qM1, qM0, qCall, qChain, qXf, eQ, eVar, eC, eOp, eUn, eIf, eNil, eCons, eCB, eTup, eLst, eO, eCut, eM1, eM0, ePop, eIxV, eAnd, eOr, eNot, eAndV, eOrV, eNotV, eChain, eCutE, eNo, ePart, oSu, iS, tB', tQ, tYes', oE, oPlus, oRep, oTre, oNew, oCompT, iR3, sPut, plVar, plIx, sIns, ePopAt, eRev, oLst, oMove, oIf, oCall, oSt, oComp, iL, iT, iR1, iR2, gN, gT, gsNil, gsCons, cNil, cVal, cRef, free_0, free_succ, ends, outs, nils, resolve, putBack, allRef, refs, wipeE, pIsN, pNotN, pEq, pNe, eqOk_ii, eqOk_ss, eqOk_bb, eqOk_ni, eqOk_in, frS_frz, frS_own, frS_nil, List.replicate, List.getElem?_cons_zero, List.getElem?_cons_succ, List.set_cons_zero, List.set_cons_succ, List.cons_append, List.nil_append, List.length_cons, List.length_nil, List.take_succ_cons, List.take_zero, List.map_cons, List.map_nil, true_and, and_true, D.int.injEq, D.str.injEq, D.lst.injEq, decide_eq_true_eq, ite_true, ite_false, if_true, if_false, reduceIte, Bool.false_eq_true, false_and, and_false, Bool.not_true, Bool.not_false, Option.some.injEq, exists_eq_left', exists_eq_left, exists_and_left, List.nodup_cons, List.nodup_nil, List.not_mem_nil, not_false_eq_true, List.mem_cons, or_false, false_or, forall_eq, forall_eq_or_imp, Slot.own.injEq, Slot.par.injEq, Slot.frz.injEq, reduceCtorEq, exists_eq', exists_eq, exists_false, decide_true, decide_false, or_self, false_implies, implies_true, forall_const, eq_self, rd_lkL1, rd_lkL2, rd_lkL3, rd_lkE1, rd_lkE2, rd_thE1, rd_thE2, rd_lkF1, rd_lkX1, rd_lkX2, rd_lkX3, rd_mvS1, rd_mvS2, rd_mvE1, rd_mvE2, rd_lsO1, rd_lsO2, rd_tpO1, rd_sol1, rd_sol2, rd_sol3, rd_sol4, rd_sol5, rd_sol6, rd_sol7, rd_flat1, rd_flat2, rd_flat3, rd_flat4, rd_flat5, rd_asD1, rd_asD2, rd_asQ1, rd_asQ2, rd_asB, rd_asI, rd_p1, rd_p2, rd_pI0, rd_pI2, rd_pU, rd_pAdd1, rd_pAdd2, rd_pAdd3, rd_pAdd4, rd_pMul1, rd_pMul2, rd_pMul3, rd_pLen1, rd_pLen2, rd_pLen3, rd_pInt1, rd_pAbs, rd_pList1, rd_pList2, rd_pList3, rd_pCut1, rd_pCut2, rd_pCut3, rd_non1, rd_non2, rd_non3, rd_non4, rd_non5, rd_non6, rd_isStr, rd_pIx1, rd_pIx2, rd_pIx3, rd_pJoin1, rd_upS1, rd_upS2, rd_out1, rd_out2, rd_out3, rd_out4, rd_asL1, rd_asL2, rd_putL1, rd_putL2, rd_lkT1, rd_lkT2, rd_lkT3, rd_thT, rd_mvT1, rd_mvT2, rd_asDT, rd_asQT, rd_upT1, rd_upT2, rd_outT1, rd_outT2, rd_ref1, rd_ref2, rd_ref3, rd_ref4, rd_flat6, rd_flats0, rd_flats1, rd_er1, rd_er2, rd_er3, rd_er4, rd_ers0, rd_ers1, rd_ersL, rd_stA, rd_isi1, rd_isi2, rd_isi3, rd_isi4, rd_isX, rd_draw, rd_take, rd_pLt, rd_pLe, rd_pGt, rd_pGe, rd_pTuple1, rd_pTuple2, rd_pStr1, rd_pStr2, rd_pInt, rd_pIntS, rd_pIntB, rd_pOrd, rd_pMax, rd_pSplit, rd_pPart, rd_stO, rd_pCutS, rd_solB, rd_pIn1, rd_pNotIn1, rd_pIn2, rd_pIn3, rd_pNotIn2, rd_pNotIn3, rd_pBls, rd_pJoin2, rd_at0, rd_at1, rd_at2, rd_at3, rd_atL, rd_ixL, rd_pRepr, rd_pGt2, rd_pLt2, rd_pListU1, rd_pListU2, rd_pListU3, rd_pListU4, rd_pSindex, rd_pStarts, rd_f1, rd_pSort, rd_pSortD, rd_oF, rd_qF, rd_fCB, rd_cat, rd_rep, rd_rev, rd_isB, rd_notB, rd_ixA1, rd_ixA2, rd_ixA3, rd_ixA4, rd_ixA5, rd_treS1, rd_treS2, rd_setT1, rd_setT2, rd_slT1, rd_slT2, rd_slT3, rd_pListF]
          refine ⟨by simp; omega, by simp, by simp, fun d hd => k d (tx_of (ls := [[97], [98], [99], [120]]) (by unfold A7; decide) hd)⟩
        · rw [rng_len] at hb2
          simp only [f4, f5, sSeq, sSet, sIf, sRet, sRetN, sNext, sBreak, sCont, sDrop, sNever, sAsg, sPar, sAug, sApp, sExt, sSetI, sForI, sWhile, sMid, sTry, sRaise, qVar, qC, qOp, qUn, qB, qAnd, qOr, qNot, qAndV, qOrV, qNotV, qIf, qNil, qCons, qCB, qTup, qLst, qCut, qPart, qNo, qM1, qM0, qCall, qChain, qXf, eQ, eVar, eC, eOp, eUn, eIf, eNil, eCons, eCB, eTup, eLst, eO, eCut, eM1, eM0, ePop, eIxV, eAnd, eOr, eNot, eAndV, eOrV, eNotV, eChain, eCutE, eNo, ePart, oSu, iS, tB', tQ, tYes', oE, oPlus, oRep, oTre, oNew, oCompT, iR3, sPut, plVar, plIx, sIns, ePopAt, eRev, oLst, oMove, oIf, oCall, oSt, oComp, iL, iT, iR1, iR2, gN, gT, gsNil, gsCons, cNil, cVal, cRef, free_0, free_succ, ends, outs, nils, resolve, putBack, allRef, refs, wipeE, pIsN, pNotN, pEq, pNe, eqOk_ii, eqOk_ss, eqOk_bb, eqOk_ni, eqOk_in, frS_frz, frS_own, frS_nil, List.replicate, List.getElem?_cons_zero, List.getElem?_cons_succ, List.set_cons_zero, List.set_cons_succ, List.cons_append, List.nil_append, List.length_cons, List.length_nil, List.take_succ_cons, List.take_zero, List.map_cons, List.map_nil, true_and, and_true, D.int.injEq, D.str.injEq, D.lst.injEq, decide_eq_true_eq, ite_true, ite_false, if_true, if_false, reduceIte, Bool.false_eq_true, false_and, and_false, Bool.not_true, Bool.not_false, Option.some.injEq, exists_eq_left', exists_eq_left, exists_and_left, List.nodup_cons, List.nodup_nil, List.not_mem_nil, not_false_eq_true, List.mem_cons, or_false, false_or, forall_eq, forall_eq_or_imp, Slot.own.injEq, Slot.par.injEq, Slot.frz.injEq, reduceCtorEq, exists_eq', exists_eq, exists_false, decide_true, decide_false, or_self, false_implies, implies_true, forall_const, eq_self, rd_lkL1, rd_lkL2, rd_lkL3, rd_lkE1, rd_lkE2, rd_thE1, rd_thE2, rd_lkF1, rd_lkX1, rd_lkX2, rd_lkX3, rd_mvS1, rd_mvS2, rd_mvE1, rd_mvE2, rd_lsO1, rd_lsO2, rd_tpO1, rd_sol1, rd_sol2, rd_sol3, rd_sol4, rd_sol5, rd_sol6, rd_sol7, rd_flat1, rd_flat2, rd_flat3, rd_flat4, rd_flat5, rd_asD1, rd_asD2, rd_asQ1, rd_asQ2, rd_asB, rd_asI, rd_p1, rd_p2, rd_pI0, rd_pI2, rd_pU, rd_pAdd1, rd_pAdd2, rd_pAdd3, rd_pAdd4, rd_pMul1, rd_pMul2, rd_pMul3, rd_pLen1, rd_pLen2, rd_pLen3, rd_pInt1, rd_pAbs, rd_pList1, rd_pList2, rd_pList3, rd_pCut1, rd_pCut2, rd_pCut3, rd_non1, rd_non2, rd_non3, rd_non4, rd_non5, rd_non6, rd_isStr, rd_pIx1, rd_pIx2, rd_pIx3, rd_pJoin1, rd_upS1, rd_upS2, rd_out1, rd_out2, rd_out3, rd_out4, rd_asL1, rd_asL2, rd_putL1, rd_putL2, rd_lkT1, rd_lkT2, rd_lkT3, rd_thT, rd_mvT1, rd_mvT2, rd_asDT, rd_asQT, rd_upT1, rd_upT2, rd_outT1, rd_outT2, rd_ref1, rd_ref2, rd_ref3, rd_ref4, rd_flat6, rd_flats0, rd_flats1, rd_er1, rd_er2, rd_er3, rd_er4, rd_ers0, rd_ers1, rd_ersL, rd_stA, rd_isi1, rd_isi2, rd_isi3, rd_isi4, rd_isX, rd_draw, rd_take, rd_pLt, rd_pLe, rd_pGt, rd_pGe, rd_pTuple1, rd_pTuple2, rd_pStr1, rd_pStr2, rd_pInt, rd_pIntS, rd_pIntB, rd_pOrd, rd_pMax, rd_pSplit, rd_pPart, rd_stO, rd_pCutS, rd_solB, rd_pIn1, rd_pNotIn1, rd_pIn2, rd_pIn3, rd_pNotIn2, rd_pNotIn3, rd_pBls, rd_pJoin2, rd_at0, rd_at1, rd_at2, rd_at3, rd_atL, rd_ixL, rd_pRepr, rd_pGt2, rd_pLt2, rd_pListU1, rd_pListU2, rd_pListU3, rd_pListU4, rd_pSindex, rd_pStarts, rd_f1, rd_pSort, rd_pSortD, rd_oF, rd_qF, rd_fCB, rd_cat, rd_rep, rd_rev, rd_isB, rd_notB, rd_ixA1, rd_ixA2, rd_ixA3, rd_ixA4, rd_ixA5, rd_treS1, rd_treS2, rd_setT1, rd_setT2, rd_slT1, rd_slT2, rd_slT3, rd_pListF]
          exact ⟨n, a, b2, _, x4, x5, rfl, .inl rfl, by omega, by omega, hta, fun d hd => by obtain ⟨_, _, q⟩ := hmb d hd; exact q, f4, f5⟩
      · exact ⟨n, a, b, _, x4, x5, rfl, .inl rfl, by omega, by omega, hta, htb, f4, f5⟩
    rintro env ⟨n, a, b, s3, x4, x5, rfl, hs, la, lb, hta, htb, f4, f5⟩
    have e : ∀ x : List D, x.length = a.length → (∀ d ∈ x, ItOk d) → TwoOk ⟨x, b⟩ := fun x h1 h2 => ⟨by dsimp only; omega, lb, h2, htb⟩
    simp only [f4, f5, sSeq, sSet, sIf, sRet, sRetN, sNext, sBreak, sCont, sDrop, sNever, sAsg, sPar, sAug, sApp, sExt, sSetI, sForI, sWhile, sMid, sTry, sRaise, qVar, qC, qOp, qUn, qB, qAnd, qOr, qNot, qAndV, qOrV, qNotV, qIf, qNil, qCons, qCB, qTup, qLst, qCut, qPart, qNo, qM1, qM0, qCall, qChain, qXf, eQ, eVar, eC, eOp, eUn, eIf, eNil, eCons, eCB, eTup, eLst, eO, eCut, eM1, eM0, ePop, eIxV, eAnd, eOr, eNot, eAndV, eOrV, eNotV, eChain, eCutE, eNo, ePart, oSu, iS, tB', tQ, tYes', oE, oPlus, oRep, oTre, oNew, oCompT, iR3, sPut, plVar, plIx, sIns, ePopAt, eRev, oLst, oMove, oIf, oCall, oSt, oComp, iL, iT, iR1, iR2, gN, gT, gsNil, gsCons, cNil, cVal, cRef, free_0, free_succ, ends, outs, nils, resolve, putBack, allRef, refs, wipeE, pIsN, pNotN, pEq, pNe, eqOk_ii, eqOk_ss, eqOk_bb, eqOk_ni, eqOk_in, frS_frz, frS_own, frS_nil, List.replicate, List.getElem?_cons_zero, List.getElem?_cons_succ, List.set_cons_zero, List.set_cons_succ, List.cons_append, List.nil_append, List.length_cons, List.length_nil, List.take_succ_cons, List.take_zero, List.map_cons, List.map_nil, true_and, and_true, D.int.injEq, D.str.injEq, D.lst.injEq, decide_eq_true_eq, ite_true, ite_false, if_true, if_false, reduceIte, Bool.false_eq_true, false_and, and_false, Bool.not_true, Bool.not_false, Option.some.injEq, exists_eq_left', exists_eq_left, exists_and_left, List.nodup_cons, List.nodup_nil, List.not_mem_nil, not_false_eq_true, List.mem_cons, or_false, false_or, forall_eq, forall_eq_or_imp, Slot.own.injEq, Slot.par.injEq, Slot.frz.injEq, reduceCtorEq, exists_eq', exists_eq, exists_false, decide_true, decide_false, or_self, false_implies, implies_true, forall_const, eq_self, rd_lkL1, rd_lkL2, rd_lkL3, rd_lkE1, rd_lkE2, rd_thE1, rd_thE2, rd_lkF1, rd_lkX1, rd_lkX2, rd_lkX3, rd_mvS1, rd_mvS2, rd_mvE1, rd_mvE2, rd_lsO1, rd_lsO2, rd_tpO1, rd_sol1, rd_sol2, rd_sol3, rd_sol4, rd_sol5, rd_sol6, rd_sol7, rd_flat1, rd_flat2, rd_flat3, rd_flat4, rd_flat5, rd_asD1, rd_asD2, rd_asQ1, rd_asQ2, rd_asB, rd_asI, rd_p1, rd_p2, rd_pI0, rd_pI2, rd_pU, rd_pAdd1, rd_pAdd2, rd_pAdd3, rd_pAdd4, rd_pMul1, rd_pMul2, rd_pMul3, rd_pLen1, rd_pLen2, rd_pLen3, rd_pInt1, rd_pAbs, rd_pList1, rd_pList2, rd_pList3, rd_pCut1, rd_pCut2, rd_pCut3, rd_non1, rd_non2, rd_non3, rd_non4, rd_non5, rd_non6, rd_isStr, rd_pIx1, rd_pIx2, rd_pIx3, rd_pJoin1, rd_upS1, rd_upS2, rd_out1, rd_out2, rd_out3, rd_out4, rd_asL1, rd_asL2, rd_putL1, rd_putL2, rd_lkT1, rd_lkT2, rd_lkT3, rd_thT, rd_mvT1, rd_mvT2, rd_asDT, rd_asQT, rd_upT1, rd_upT2, rd_outT1, rd_outT2, rd_ref1, rd_ref2, rd_ref3, rd_ref4, rd_flat6, rd_flats0, rd_flats1, rd_er1, rd_er2, rd_er3, rd_er4, rd_ers0, rd_ers1, rd_ersL, rd_stA, rd_isi1, rd_isi2, rd_isi3, rd_isi4, rd_isX, rd_draw, rd_take, rd_pLt, rd_pLe, rd_pGt, rd_pGe, rd_pTuple1, rd_pTuple2, rd_pStr1, rd_pStr2, rd_pInt, rd_pIntS, rd_pIntB, rd_pOrd, rd_pMax, rd_pSplit, rd_pPart, rd_stO, rd_pCutS, rd_solB, rd_pIn1, rd_pNotIn1, rd_pIn2, rd_pIn3, rd_pNotIn2, rd_pNotIn3, rd_pBls, rd_pJoin2, rd_at0, rd_at1, rd_at2, rd_at3, rd_atL, rd_ixL, rd_pRepr, rd_pGt2, rd_pLt2, rd_pListU1, rd_pListU2, rd_pListU3, rd_pListU4, rd_pSindex, rd_pStarts, rd_f1, rd_pSort, rd_pSortD, rd_oF, rd_qF, rd_fCB, rd_cat, rd_rep, rd_rev, rd_isB, rd_notB, rd_ixA1, rd_ixA2, rd_ixA3, rd_ixA4, rd_ixA5, rd_treS1, rd_treS2, rd_setT1, rd_setT2, rd_slT1, rd_slT2, rd_slT3, rd_pListF]
    refine comp_rel (fun x y => y = x ∨ y = D.non) (by omega) (fun d hd K k => ?_) (fun a2 ha2 hma2 => ?_)
    · simp only [f4, f5, sSeq, sSet, sIf, sRet, sRetN, sNext, sBreak, sCont, sDrop, sNever, sAsg, sPar, sAug, sApp, sExt, sSetI, sForI, sWhile, sMid, sTry, sRaise, qVar, qC, qOp, qUn, qB, qAnd, qOr, qNot, qAndV, qOrV, qNotV, qIf, qNil, qCons, qCB, qTup, qLst, qCut, qPart, qNo, qM1, qM0, qCall, qChain, qXf, eQ, eVar, eC, eOp, eUn, eIf, eNil, eCons, eCB, eTup, eLst, eO, eCut, eM1, eM0, ePop, eIxV, eAnd, eOr, eNot, eAndV, eOrV, eNotV, eChain, eCutE, eNo, ePart, oSu, iS, tB', tQ, tYes', oE, oPlus, oRep, oTre, oNew, oCompT, iR3, sPut, plVar, plIx, sIns, ePopAt, eRev, oLst, oMove, oIf, oCall, oSt, oComp, iL, iT, iR1, iR2, gN, gT, gsNil, gsCons, cNil, cVal, cRef, free_0, free_succ, ends, outs, nils, resolve, putBack, allRef, refs, wipeE, pIsN, pNotN, pEq, pNe, eqOk_ii, eqOk_ss, eqOk_bb, eqOk_ni, eqOk_in, frS_frz, frS_own, frS_nil, List.replicate, List.getElem?_cons_zero, List.getElem?_cons_succ, List.set_cons_zero, List.set_cons_succ, List.cons_append, List.nil_append, List.length_cons, List.length_nil, List.take_succ_cons, List.take_zero, List.map_cons, List.map_nil, true_and, and_true, D.int.injEq, D.str.injEq, D.lst.injEq, decide_eq_true_eq, ite_true, ite_false, if_true, if_false, reduceIte, Bool.false_eq_true, false_and, and_false, Bool.not_true, Bool.not_false, Option.some.injEq, exists_eq_left', exists_eq_left, exists_and_left, List.nodup_cons, List.nodup_nil, List.not_mem_nil, not_false_eq_true, List.mem_cons, or_false, false_or, forall_eq, forall_eq_or_imp, Slot.own.injEq, Slot.par.injEq, Slot.frz.injEq, reduceCtorEq, exists_eq', exists_eq, exists_false, decide_true, decide_false, or_self, false_implies, implies_true, forall_const, eq_self, rd_lkL1, rd_lkL2, rd_lkL3, rd_lkE1, rd_lkE2, rd_thE1, rd_thE2, rd_lkF1, rd_lkX1, rd_lkX2, rd_lkX3, rd_mvS1, rd_mvS2, rd_mvE1, rd_mvE2, rd_lsO1, rd_lsO2, rd_tpO1, rd_sol1, rd_sol2, rd_sol3, rd_sol4, rd_sol5, rd_sol6, rd_sol7, rd_flat1, rd_flat2, rd_flat3, rd_flat4, rd_flat5, rd_asD1, rd_asD2, rd_asQ1, rd_asQ2, rd_asB, rd_asI, rd_p1, rd_p2, rd_pI0, rd_pI2, rd_pU, rd_pAdd1, rd_pAdd2, rd_pAdd3, rd_pAdd4, rd_pMul1, rd_pMul2, rd_pMul3, rd_pLen1, rd_pLen2, rd_pLen3, rd_pInt1, rd_pAbs, rd_pList1, rd_pList2, rd_pList3, rd_pCut1, rd_pCut2, rd_pCut3, rd_non1, rd_non2, rd_non3, rd_non4, rd_non5, rd_non6, rd_isStr, rd_pIx1, rd_pIx2, rd_pIx3, rd_pJoin1, rd_upS1, rd_upS2, rd_out1, rd_out2, rd_out3, rd_out4, rd_asL1, rd_asL2, rd_putL1, rd_putL2, rd_lkT1, rd_lkT2, rd_lkT3, rd_thT, rd_mvT1, rd_mvT2, rd_asDT, rd_asQT, rd_upT1, rd_upT2, rd_outT1, rd_outT2, rd_ref1, rd_ref2, rd_ref3, rd_ref4, rd_flat6, rd_flats0, rd_flats1, rd_er1, rd_er2, rd_er3, rd_er4, rd_ers0, rd_ers1, rd_ersL, rd_stA, rd_isi1, rd_isi2, rd_isi3, rd_isi4, rd_isX, rd_draw, rd_take, rd_pLt, rd_pLe, rd_pGt, rd_pGe, rd_pTuple1, rd_pTuple2, rd_pStr1, rd_pStr2, rd_pInt, rd_pIntS, rd_pIntB, rd_pOrd, rd_pMax, rd_pSplit, rd_pPart, rd_stO, rd_pCutS, rd_solB, rd_pIn1, rd_pNotIn1, rd_pIn2, rd_pIn3, rd_pNotIn2, rd_pNotIn3, rd_pBls, rd_pJoin2, rd_at0, rd_at1, rd_at2, rd_at3, rd_atL, rd_ixL, rd_pRepr, rd_pGt2, rd_pLt2, rd_pListU1, rd_pListU2, rd_pListU3, rd_pListU4, rd_pSindex, rd_pStarts, rd_f1, rd_pSort, rd_pSortD, rd_oF, rd_qF, rd_fCB, rd_cat, rd_rep, rd_rev, rd_isB, rd_notB, rd_ixA1, rd_ixA2, rd_ixA3, rd_ixA4, rd_ixA5, rd_treS1, rd_treS2, rd_setT1, rd_setT2, rd_slT1, rd_slT2, rd_slT3, rd_pListF]
      refine ⟨by omega, fun u g0 g1 => ?_⟩
      split
      · exact k _ (.inl rfl)
      · exact k _ (.inr rfl)
    · rcases hs with rfl | rfl
      all_goals
        simp only [f4, f5, sSeq, sSet, sIf, sRet, sRetN, sNext, sBreak, sCont, sDrop, sNever, sAsg, sPar, sAug, sApp, sExt, sSetI, sForI, sWhile, sMid, sTry, sRaise, qVar, qC, qOp, qUn, qB, qAnd, qOr, qNot, qAndV, qOrV, qNotV, qIf, qNil, qCons, qCB, qTup, qLst, qCut, qPart, qNo, qM1, qM0, qCall, qChain, qXf, eQ, eVar, eC, eOp, eUn, eIf, eNil, eCons, eCB, eTup, eLst, eO, eCut, eM1, eM0, ePop, eIxV, eAnd, eOr, eNot, eAndV, eOrV, eNotV, eChain, eCutE, eNo, ePart, oSu, iS, tB', tQ, tYes', oE, oPlus, oRep, oTre, oNew, oCompT, iR3, sPut, plVar, plIx, sIns, ePopAt, eRev, oLst, oMove, oIf, oCall, oSt, oComp, iL, iT, iR1, iR2, gN, gT, gsNil, gsCons, cNil, cVal, cRef, free_0, free_succ, ends, outs, nils, resolve, putBack, allRef, refs, wipeE, pIsN, pNotN, pEq, pNe, eqOk_ii, eqOk_ss, eqOk_bb, eqOk_ni, eqOk_in, frS_frz, frS_own, frS_nil, List.replicate, List.getElem?_cons_zero, List.getElem?_cons_succ, List.set_cons_zero, List.set_cons_succ, List.cons_append, List.nil_append, List.length_cons, List.length_nil, List.take_succ_cons, List.take_zero, List.map_cons, List.map_nil, true_and, and_true, D.int.injEq, D.str.injEq, D.lst.injEq, decide_eq_true_eq, ite_true, ite_false, if_true, if_false, reduceIte, Bool.false_eq_true, false_and, and_false, Bool.not_true, Bool.not_false, Option.some.injEq, exists_eq_left', exists_eq_left, exists_and_left, List.nodup_cons, List.nodup_nil, List.not_mem_nil, not_false_eq_true, List.mem_cons, or_false, false_or, forall_eq, forall_eq_or_imp, Slot.own.injEq, Slot.par.injEq, Slot.frz.injEq, reduceCtorEq, exists_eq', exists_eq, exists_false, decide_true, decide_false, or_self, false_implies, implies_true, forall_const, eq_self, rd_lkL1, rd_lkL2, rd_lkL3, rd_lkE1, rd_lkE2, rd_thE1, rd_thE2, rd_lkF1, rd_lkX1, rd_lkX2, rd_lkX3, rd_mvS1, rd_mvS2, rd_mvE1, rd_mvE2, rd_lsO1, rd_lsO2, rd_tpO1, rd_sol1, rd_sol2, rd_sol3, rd_sol4, rd_sol5, rd_sol6, rd_sol7, rd_flat1, rd_flat2, rd_flat3, rd_flat4, rd_flat5, rd_asD1, rd_asD2, rd_asQ1, rd_asQ2, rd_asB, rd_asI, rd_p1, rd_p2, rd_pI0, rd_pI2, rd_pU, rd_pAdd1, rd_pAdd2, rd_pAdd3, rd_pAdd4, rd_pMul1, rd_pMul2, rd_pMul3, rd_pLen1, rd_pLen2, rd_pLen3, rd_pInt1, rd_pAbs, rd_pList1, rd_pList2, rd_pList3, rd_pCut1, rd_pCut2, rd_pCut3, rd_non1, rd_non2, rd_non3, rd_non4, rd_non5, rd_non6, rd_isStr, rd_pIx1, rd_pIx2, rd_pIx3, rd_pJoin1, rd_upS1, rd_upS2, rd_out1, rd_out2, rd_out3, rd_out4, rd_asL1, rd_asL2, rd_putL1, rd_putL2, rd_lkT1, rd_lkT2, rd_lkT3, rd_thT, rd_mvT1, rd_mvT2, rd_asDT, rd_asQT, rd_upT1, rd_upT2, rd_outT1, rd_outT2, rd_ref1, rd_ref2, rd_ref3, rd_ref4, rd_flat6, rd_flats0, rd_flats1, rd_er1, rd_er2, rd_er3, rd_er4, rd_ers0, rd_ers1, rd_ersL, rd_stA, rd_isi1, rd_isi2, rd_isi3, rd_isi4, rd_isX, rd_draw, rd_take, rd_pLt, rd_pLe, rd_pGt, rd_pGe, rd_pTuple1, rd_pTuple2, rd_pStr1, rd_pStr2, rd_pInt, rd_pIntS, rd_pIntB, rd_pOrd, rd_pMax, rd_pSplit, rd_pPart, rd_stO, rd_pCutS, rd_solB, rd_pIn1, rd_pNotIn1, rd_pIn2, rd_pIn3, rd_pNotIn2, rd_pNotIn3, rd_pBls, rd_pJoin2, rd_at0, rd_at1, rd_at2, rd_at3, rd_atL, rd_ixL, rd_pRepr, rd_pGt2, rd_pLt2, rd_pListU1, rd_pListU2, rd_pListU3, rd_pListU4, rd_pSindex, rd_pStarts, rd_f1, rd_pSort, rd_pSortD, rd_oF, rd_qF, rd_fCB, rd_cat, rd_rep, rd_rev, rd_isB, rd_notB, rd_ixA1, rd_ixA2, rd_ixA3, rd_ixA4, rd_ixA5, rd_treS1, rd_treS2, rd_setT1, rd_setT2, rd_slT1, rd_slT2, rd_slT3, rd_pListF]
        refine ⟨by omega, h ⟨a2, b⟩ (e a2 ha2 fun d hd => ?_)⟩
        obtain ⟨x, hx, q⟩ := hma2 d hd
        rcases q with rfl | rfl
        · exact .inr (hta d hx)
        · exact .inl rfl
theorem cutD_nat {xs : List D} {i j : Nat} (hij : i ≤ j) : cutD xs (some (i : Int)) (some (j : Int)) = (xs.drop i).take (j - i) := by
  unfold cutD
  rw [HT.sIx_nat xs.length xs.length j, HT.sIx_nat xs.length 0 i]
  by_cases hi : i ≤ xs.length
  · rw [Nat.min_eq_left hi]
    by_cases hj : j ≤ xs.length
    · rw [Nat.min_eq_left hj]
    · rw [Nat.min_eq_right (by omega), List.take_of_length_le (by rw [List.length_drop]; omega), List.take_of_length_le (by rw [List.length_drop]; omega)]
  · rw [Nat.min_eq_right (by omega), Nat.min_eq_right (by omega), Nat.sub_self, List.take_zero, List.drop_eq_nil_of_le (by omega), List.take_nil]
theorem cutD_to {xs : List D} {j : Nat} : cutD xs none (some (j : Int)) = xs.take j := by
  have := cutD_nat (xs := xs) (i := 0) (j := j) (by omega)
  rw [List.drop_zero, Nat.sub_zero] at this
  rw [← this]
  unfold cutD
  rw [HT.sIx_nat xs.length 0 0, Nat.zero_min]
  rfl
theorem cutD_from {xs : List D} {i : Nat} : cutD xs (some (i : Int)) none = xs.drop i := by
  have := cutD_nat (xs := xs) (i := i) (j := max i xs.length) (by omega)
  rw [List.take_of_length_le (by rw [List.length_drop]; omega)] at this
  rw [← this]
  unfold cutD
  rw [HT.sIx_nat xs.length xs.length, Nat.min_eq_right (by omega)]
  rfl
def I_os (a b : List D) (ss : List St) (k : Nat) (env : Pu.Env) : Prop := ∃ (ts : List St) (x5 x6 x7 : Pu.Slot), env = [.par stA, .frz (.lst a), .frz (.lst b), .frz (stD ss), .own (stD ts), x5, x6, x7] ∧ ts.length ≤ ss.length + k ∧ frS x5 = true ∧ frS x6 = true ∧ frS x7 = true
theorem pp_law_other_steps : ∀ as Q X, ps_law_other_steps as Q X → p_law_other_steps (ends 4 Q) (as ++ nils (8 - as.length)) := by
  rintro as Q X ⟨⟨a, b, d⟩, rfl, hk, ss, hd, hl, h⟩
  dsimp only at hk hd h
  subst hd
  have e2 := big
  simp only [p_law_other_steps, stD, sSeq, sSet, sIf, sRet, sRetN, sNext, sBreak, sCont, sDrop, sNever, sAsg, sPar, sAug, sApp, sExt, sSetI, sForI, sWhile, sMid, sTry, sRaise, qVar, qC, qOp, qUn, qB, qAnd, qOr, qNot, qAndV, qOrV, qNotV, qIf, qNil, qCons, qCB, qTup, qLst, qCut, qPart, qNo, qM1, qM0, qCall, qChain, qXf, eQ, eVar, eC, eOp, eUn, eIf, eNil, eCons, eCB, eTup, eLst, eO, eCut, eM1, eM0, ePop, eIxV, eAnd, eOr, eNot, eAndV, eOrV, eNotV, eChain, eCutE, eNo, ePart, oSu, iS, tB', tQ, tYes', oE, oPlus, oRep, oTre, oNew, oCompT, iR3, sPut, plVar, plIx, sIns, ePopAt, eRev, oLst, oMove, oIf, oCall, oSt, oComp, iL, iT, iR1, iR2, gN, gT, gsNil, gsCons, cNil, cVal, cRef, free_0, free_succ, ends, outs, nils, resolve, putBack, allRef, refs, wipeE, pIsN, pNotN, pEq, pNe, eqOk_ii, eqOk_ss, eqOk_bb, eqOk_ni, eqOk_in, frS_frz, frS_own, frS_nil, List.replicate, List.getElem?_cons_zero, List.getElem?_cons_succ, List.set_cons_zero, List.set_cons_succ, List.cons_append, List.nil_append, List.length_cons, List.length_nil, List.take_succ_cons, List.take_zero, List.map_cons, List.map_nil, true_and, and_true, D.int.injEq, D.str.injEq, D.lst.injEq, decide_eq_true_eq, ite_true, ite_false, if_true, if_false, reduceIte, Bool.false_eq_true, false_and, and_false, Bool.not_true, Bool.not_false, Option.some.injEq, exists_eq_left', exists_eq_left, exists_and_left, List.nodup_cons, List.nodup_nil, List.not_mem_nil, not_false_eq_true, List.mem_cons, or_false, false_or, forall_eq, forall_eq_or_imp, Slot.own.injEq, Slot.par.injEq, Slot.frz.injEq, reduceCtorEq, exists_eq', exists_eq, exists_false, decide_true, decide_false, or_self, false_implies, implies_true, forall_const, eq_self, rd_lkL1, rd_lkL2, rd_lkL3, rd_lkE1, rd_lkE2, rd_thE1, rd_thE2, rd_lkF1, rd_lkX1, rd_lkX2, rd_lkX3, rd_mvS1, rd_mvS2, rd_mvE1, rd_mvE2, rd_lsO1, rd_lsO2, rd_tpO1, rd_sol1, rd_sol2, rd_sol3, rd_sol4, rd_sol5, rd_sol6, rd_sol7, rd_flat1, rd_flat2, rd_flat3, rd_flat4, rd_flat5, rd_asD1, rd_asD2, rd_asQ1, rd_asQ2, rd_asB, rd_asI, rd_p1, rd_p2, rd_pI0, rd_pI2, rd_pU, rd_pAdd1, rd_pAdd2, rd_pAdd3, rd_pAdd4, rd_pMul1, rd_pMul2, rd_pMul3, rd_pLen1, rd_pLen2, rd_pLen3, rd_pInt1, rd_pAbs, rd_pList1, rd_pList2, rd_pList3, rd_pCut1, rd_pCut2, rd_pCut3, rd_non1, rd_non2, rd_non3, rd_non4, rd_non5, rd_non6, rd_isStr, rd_pIx1, rd_pIx2, rd_pIx3, rd_pJoin1, rd_upS1, rd_upS2, rd_out1, rd_out2, rd_out3, rd_out4, rd_asL1, rd_asL2, rd_putL1, rd_putL2, rd_lkT1, rd_lkT2, rd_lkT3, rd_thT, rd_mvT1, rd_mvT2, rd_asDT, rd_asQT, rd_upT1, rd_upT2, rd_outT1, rd_outT2, rd_ref1, rd_ref2, rd_ref3, rd_ref4, rd_flat6, rd_flats0, rd_flats1, rd_er1, rd_er2, rd_er3, rd_er4, rd_ers0, rd_ers1, rd_ersL, rd_stA, rd_isi1, rd_isi2, rd_isi3, rd_isi4, rd_isX, rd_draw, rd_take, rd_pLt, rd_pLe, rd_pGt, rd_pGe, rd_pTuple1, rd_pTuple2, rd_pStr1, rd_pStr2, rd_pInt, rd_pIntS, rd_pIntB, rd_pOrd, rd_pMax, rd_pSplit, rd_pPart, rd_stO, rd_pCutS, rd_solB, rd_pIn1, rd_pNotIn1, rd_pIn2, rd_pIn3, rd_pNotIn2, rd_pNotIn3, rd_pBls, rd_pJoin2, rd_at0, rd_at1, rd_at2, rd_at3, rd_atL, rd_ixL, rd_pRepr, rd_pGt2, rd_pLt2, rd_pListU1, rd_pListU2, rd_pListU3, rd_pListU4, rd_pSindex, rd_pStarts, rd_f1, rd_pSort, rd_pSortD, rd_oF, rd_qF, rd_fCB, rd_cat, rd_rep, rd_rev, rd_isB, rd_notB, rd_ixA1, rd_ixA2, rd_ixA3, rd_ixA4, rd_ixA5, rd_treS1, rd_treS2, rd_setT1, rd_setT2, rd_slT1, rd_slT2, rd_slT3, rd_pListF]
  refine ⟨flats_all.mpr fun d hd => by
    obtain ⟨s, _, rfl⟩ := List.mem_map.mp hd
    cases s <;> rfl, by omega, fun v h0 h1 => ⟨by omega, I_os a b ss, ⟨ss, .nil, .nil, .nil, rfl, by omega, rfl, rfl, rfl⟩, ?_⟩⟩
  rintro k env ⟨ts, x5, x6, x7, rfl, hts, f5, f6, f7⟩
  refine ⟨fun d hd => ?_, fun hi => ?_⟩
  · obtain ⟨hk', _⟩ := List.getElem?_eq_some_iff.mp hd
    rw [rng_len] at hk'
    obtain ⟨c, hc, rfl⟩ := List.mem_map.mp (List.mem_of_getElem? hd)
    have fin : ∀ (us : List St) (y6 y7 : Pu.Slot), us.length ≤ ts.length + 1 → frS y6 = true → frS y7 = true → I_os a b ss (k + 1) [.par stA, .frz (.lst a), .frz (.lst b), .frz (stD ss), .own (stD us), .frz (.int (0 + (c : Int))), y6, y7] := fun us y6 y7 h1 h2 h3 => ⟨us, _, y6, y7, rfl, by omega, rfl, h2, h3⟩
    simp only [f5, f6, f7, stD, List.length_map, sSeq, sSet, sIf, sRet, sRetN, sNext, sBreak, sCont, sDrop, sNever, sAsg, sPar, sAug, sApp, sExt, sSetI, sForI, sWhile, sMid, sTry, sRaise, qVar, qC, qOp, qUn, qB, qAnd, qOr, qNot, qAndV, qOrV, qNotV, qIf, qNil, qCons, qCB, qTup, qLst, qCut, qPart, qNo, qM1, qM0, qCall, qChain, qXf, eQ, eVar, eC, eOp, eUn, eIf, eNil, eCons, eCB, eTup, eLst, eO, eCut, eM1, eM0, ePop, eIxV, eAnd, eOr, eNot, eAndV, eOrV, eNotV, eChain, eCutE, eNo, ePart, oSu, iS, tB', tQ, tYes', oE, oPlus, oRep, oTre, oNew, oCompT, iR3, sPut, plVar, plIx, sIns, ePopAt, eRev, oLst, oMove, oIf, oCall, oSt, oComp, iL, iT, iR1, iR2, gN, gT, gsNil, gsCons, cNil, cVal, cRef, free_0, free_succ, ends, outs, nils, resolve, putBack, allRef, refs, wipeE, pIsN, pNotN, pEq, pNe, eqOk_ii, eqOk_ss, eqOk_bb, eqOk_ni, eqOk_in, frS_frz, frS_own, frS_nil, List.replicate, List.getElem?_cons_zero, List.getElem?_cons_succ, List.set_cons_zero, List.set_cons_succ, List.cons_append, List.nil_append, List.length_cons, List.length_nil, List.take_succ_cons, List.take_zero, List.map_cons, List.map_nil, true_and, and_true, D.int.injEq, D.str.injEq, D.lst.injEq, decide_eq_true_eq, ite_true, ite_false, if_true, if_false, reduceIte, Bool.false_eq_true, false_and, and_false, Bool.not_true, Bool.not_false, Option.some.injEq, exists_eq_left', exists_eq_left, exists_and_left, List.nodup_cons, List.nodup_nil, List.not_mem_nil, not_false_eq_true, List.mem_cons, or_false, false_or, forall_eq, forall_eq_or_imp, Slot.own.injEq, Slot.par.injEq, Slot.frz.injEq, reduceCtorEq, exists_eq', exists_eq, exists_false, decide_true, decide_false, or_self, false_implies, implies_true, forall_const, eq_self, rd_lkL1, rd_lkL2, rd_lkL3, rd_lkE1, rd_lkE2, rd_thE1, rd_thE2, rd_lkF1, rd_lkX1, rd_lkX2, rd_lkX3, rd_mvS1, rd_mvS2, rd_mvE1, rd_mvE2, rd_lsO1, rd_lsO2, rd_tpO1, rd_sol1, rd_sol2, rd_sol3, rd_sol4, rd_sol5, rd_sol6, rd_sol7, rd_flat1, rd_flat2, rd_flat3, rd_flat4, rd_flat5, rd_asD1, rd_asD2, rd_asQ1, rd_asQ2, rd_asB, rd_asI, rd_p1, rd_p2, rd_pI0, rd_pI2, rd_pU, rd_pAdd1, rd_pAdd2, rd_pAdd3, rd_pAdd4, rd_pMul1, rd_pMul2, rd_pMul3, rd_pLen1, rd_pLen2, rd_pLen3, rd_pInt1, rd_pAbs, rd_pList1, rd_pList2, rd_pList3, rd_pCut1, rd_pCut2, rd_pCut3, rd_non1, rd_non2, rd_non3, rd_non4, rd_non5, rd_non6, rd_isStr, rd_pIx1, rd_pIx2, rd_pIx3, rd_pJoin1, rd_upS1, rd_upS2, rd_out1, rd_out2, rd_out3, rd_out4, rd_asL1, rd_asL2, rd_putL1, rd_putL2, rd_lkT1, rd_lkT2, rd_lkT3, rd_thT, rd_mvT1, rd_mvT2, rd_asDT, rd_asQT, rd_upT1, rd_upT2, rd_outT1, rd_outT2, rd_ref1, rd_ref2, rd_ref3, rd_ref4, rd_flat6, rd_flats0, rd_flats1, rd_er1, rd_er2, rd_er3, rd_er4, rd_ers0, rd_ers1, rd_ersL, rd_stA, rd_isi1, rd_isi2, rd_isi3, rd_isi4, rd_isX, rd_draw, rd_take, rd_pLt, rd_pLe, rd_pGt, rd_pGe, rd_pTuple1, rd_pTuple2, rd_pStr1, rd_pStr2, rd_pInt, rd_pIntS, rd_pIntB, rd_pOrd, rd_pMax, rd_pSplit, rd_pPart, rd_stO, rd_pCutS, rd_solB, rd_pIn1, rd_pNotIn1, rd_pIn2, rd_pIn3, rd_pNotIn2, rd_pNotIn3, rd_pBls, rd_pJoin2, rd_at0, rd_at1, rd_at2, rd_at3, rd_atL, rd_ixL, rd_pRepr, rd_pGt2, rd_pLt2, rd_pListU1, rd_pListU2, rd_pListU3, rd_pListU4, rd_pSindex, rd_pStarts, rd_f1, rd_pSort, rd_pSortD, rd_oF, rd_qF, rd_fCB, rd_cat, rd_rep, rd_rev, rd_isB, rd_notB, rd_ixA1, rd_ixA2, rd_ixA3, rd_ixA4, rd_ixA5, rd_treS1, rd_treS2, rd_setT1, rd_setT2, rd_slT1, rd_slT2, rd_slT3, rd_pListF]
    refine ⟨by omega, fun u g0 g1 => ?_⟩
    split
    · refine ⟨by omega, fun v g2 g3 => ⟨by omega, by omega, by omega, by omega, ?_⟩⟩
      simp only [c_pick, sSeq, sSet, sIf, sRet, sRetN, sNext, sBreak, sCont, sDrop, sNever, sAsg, sPar, sAug, sApp, sExt, sSetI, sForI, sWhile, sMid, sTry, sRaise, qVar, qC, qOp, qUn, qB, qAnd, qOr, qNot, qAndV, qOrV, qNotV, qIf, qNil, qCons, qCB, qTup, qLst, qCut, qPart, qNo, qM1, qM0, qCall, qChain, qXf, eQ, eVar, eC, eOp, eUn, eIf, eNil, eCons, eCB, eTup, eLst, eO, eCut, eM1, eM0, ePop, eIxV, eAnd, eOr, eNot, eAndV, eOrV, eNotV, eChain, eCutE, eNo, ePart, oSu, iS, tB', tQ, tYes', oE, oPlus, oRep, oTre, oNew, oCompT, iR3, sPut, plVar, plIx, sIns, ePopAt, eRev, oLst, oMove, oIf, oCall, oSt, oComp, iL, iT, iR1, iR2, gN, gT, gsNil, gsCons, cNil, cVal, cRef, free_0, free_succ, ends, outs, nils, resolve, putBack, allRef, refs, wipeE, pIsN, pNotN, pEq, pNe, eqOk_ii, eqOk_ss, eqOk_bb, eqOk_ni, eqOk_in, frS_frz, frS_own, frS_nil, List.replicate, List.getElem?_cons_zero, List.getElem?_cons_succ, List.set_cons_zero, List.set_cons_succ, List.cons_append, List.nil_append, List.length_cons, List.length_nil, List.take_succ_cons, List.take_zero, List.map_cons, List.map_nil, true_and, and_true, D.int.injEq, D.str.injEq, D.lst.injEq, decide_eq_true_eq, ite_true, ite_false, if_true, if_false, reduceIte, Bool.false_eq_true, false_and, and_false, Bool.not_true, Bool.not_false, Option.some.injEq, exists_eq_left', exists_eq_left, exists_and_left, List.nodup_cons, List.nodup_nil, List.not_mem_nil, not_false_eq_true, List.mem_cons, or_false, false_or, forall_eq, forall_eq_or_imp, Slot.own.injEq, Slot.par.injEq, Slot.frz.injEq, reduceCtorEq, exists_eq', exists_eq, exists_false, decide_true, decide_false, or_self, false_implies, implies_true, forall_const, eq_self, rd_lkL1, rd_lkL2, rd_lkL3, rd_lkE1, rd_lkE2, rd_thE1, rd_thE2, rd_lkF1, rd_lkX1, rd_lkX2, rd_lkX3, rd_mvS1, rd_mvS2, rd_mvE1, rd_mvE2, rd_lsO1, rd_lsO2, rd_tpO1, rd_sol1, rd_sol2, rd_sol3, rd_sol4, rd_sol5, rd_sol6, rd_sol7, rd_flat1, rd_flat2, rd_flat3, rd_flat4, rd_flat5, rd_asD1, rd_asD2, rd_asQ1, rd_asQ2, rd_asB, rd_asI, rd_p1, rd_p2, rd_pI0, rd_pI2, rd_pU, rd_pAdd1, rd_pAdd2, rd_pAdd3, rd_pAdd4, rd_pMul1, rd_pMul2, rd_pMul3, rd_pLen1, rd_pLen2, rd_pLen3, rd_pInt1, rd_pAbs, rd_pList1, rd_pList2, rd_pList3, rd_pCut1, rd_pCut2, rd_pCut3, rd_non1, rd_non2, rd_non3, rd_non4, rd_non5, rd_non6, rd_isStr, rd_pIx1, rd_pIx2, rd_pIx3, rd_pJoin1, rd_upS1, rd_upS2, rd_out1, rd_out2, rd_out3, rd_out4, rd_asL1, rd_asL2, rd_putL1, rd_putL2, rd_lkT1, rd_lkT2, rd_lkT3, rd_thT, rd_mvT1, rd_mvT2, rd_asDT, rd_asQT, rd_upT1, rd_upT2, rd_outT1, rd_outT2, rd_ref1, rd_ref2, rd_ref3, rd_ref4, rd_flat6, rd_flats0, rd_flats1, rd_er1, rd_er2, rd_er3, rd_er4, rd_ers0, rd_ers1, rd_ersL, rd_stA, rd_isi1, rd_isi2, rd_isi3, rd_isi4, rd_isX, rd_draw, rd_take, rd_pLt, rd_pLe, rd_pGt, rd_pGe, rd_pTuple1, rd_pTuple2, rd_pStr1, rd_pStr2, rd_pInt, rd_pIntS, rd_pIntB, rd_pOrd, rd_pMax, rd_pSplit, rd_pPart, rd_stO, rd_pCutS, rd_solB, rd_pIn1, rd_pNotIn1, rd_pIn2, rd_pIn3, rd_pNotIn2, rd_pNotIn3, rd_pBls, rd_pJoin2, rd_at0, rd_at1, rd_at2, rd_at3, rd_atL, rd_ixL, rd_pRepr, rd_pGt2, rd_pLt2, rd_pListU1, rd_pListU2, rd_pListU3, rd_pListU4, rd_pSindex, rd_pStarts, rd_f1, rd_pSort, rd_pSortD, rd_oF, rd_qF, rd_fCB, rd_cat, rd_rep, rd_rev, rd_isB, rd_notB, rd_ixA1, rd_ixA2, rd_ixA3, rd_ixA4, rd_ixA5, rd_treS1, rd_treS2, rd_setT1, rd_setT2, rd_slT1, rd_slT2, rd_slT3, rd_pListF]
      refine ⟨by simp, by simp, fun d hd => ?_⟩
      obtain ⟨s, rfl⟩ : ∃ s : St, d = s.d := by
        simp only [List.mem_cons, List.not_mem_nil, or_false] at hd
        rcases hd with rfl | rfl | rfl
        · exact ⟨.put 0, rfl⟩
        · exact ⟨.cut 0, rfl⟩
        · exact ⟨.keep 0 0, rfl⟩
      have e : (ts.map St.d).take v.toNat ++ [s.d] ++ (ts.map St.d).drop v.toNat = (ts.take v.toNat ++ [s] ++ ts.drop v.toNat).map St.d := by simp
      rw [e]
      refine ⟨by rw [List.length_map]; omega, g2, by omega, fin _ _ _ ?_ rfl f7⟩
      simp only [List.length_append, List.length_take, List.length_drop, List.length_cons, List.length_nil]
      omega
    split
    · refine ⟨by omega, fun v g2 g3 => ⟨by omega, by omega, by omega, by omega, ?_⟩⟩
      simp only [c_pick, sSeq, sSet, sIf, sRet, sRetN, sNext, sBreak, sCont, sDrop, sNever, sAsg, sPar, sAug, sApp, sExt, sSetI, sForI, sWhile, sMid, sTry, sRaise, qVar, qC, qOp, qUn, qB, qAnd, qOr, qNot, qAndV, qOrV, qNotV, qIf, qNil, qCons, qCB, qTup, qLst, qCut, qPart, qNo, qM1, qM0, qCall, qChain, qXf, eQ, eVar, eC, eOp, eUn, eIf, eNil, eCons, eCB, eTup, eLst, eO, eCut, eM1, eM0, ePop, eIxV, eAnd, eOr, eNot, eAndV, eOrV, eNotV, eChain, eCutE, eNo, ePart, oSu, iS, tB', tQ, tYes', oE, oPlus, oRep, oTre, oNew, oCompT, iR3, sPut, plVar, plIx, sIns, ePopAt, eRev, oLst, oMove, oIf, oCall, oSt, oComp, iL, iT, iR1, iR2, gN, gT, gsNil, gsCons, cNil, cVal, cRef, free_0, free_succ, ends, outs, nils, resolve, putBack, allRef, refs, wipeE, pIsN, pNotN, pEq, pNe, eqOk_ii, eqOk_ss, eqOk_bb, eqOk_ni, eqOk_in, frS_frz, frS_own, frS_nil, List.replicate, List.getElem?_cons_zero, List.getElem?_cons_succ, List.set_cons_zero, List.set_cons_succ, List.cons_append, List.nil_append, List.length_cons, List.length_nil, List.take_succ_cons, List.take_zero, List.map_cons, List.map_nil, true_and, and_true, D.int.injEq, D.str.injEq, D.lst.injEq, decide_eq_true_eq, ite_true, ite_false, if_true, if_false, reduceIte, Bool.false_eq_true, false_and, and_false, Bool.not_true, Bool.not_false, Option.some.injEq, exists_eq_left', exists_eq_left, exists_and_left, List.nodup_cons, List.nodup_nil, List.not_mem_nil, not_false_eq_true, List.mem_cons, or_false, false_or, forall_eq, forall_eq_or_imp, Slot.own.injEq, Slot.par.injEq, Slot.frz.injEq, reduceCtorEq, exists_eq', exists_eq, exists_false, decide_true, decide_false, or_self, false_implies, implies_true, forall_const, eq_self, rd_lkL1, rd_lkL2, rd_lkL3, rd_lkE1, rd_lkE2, rd_thE1, rd_thE2, rd_lkF1, rd_lkX1, rd_lkX2, rd_lkX3, rd_mvS1, rd_mvS2, rd_mvE1, rd_mvE2, rd_lsO1, rd_lsO2, rd_tpO1, rd_sol1, rd_sol2, rd_sol3, rd_sol4, rd_sol5, rd_sol6, rd_sol7, rd_flat1, rd_flat2, rd_flat3, rd_flat4, rd_flat5, rd_asD1, rd_asD2, rd_asQ1, rd_asQ2, rd_asB, rd_asI, rd_p1, rd_p2, rd_pI0, rd_pI2, rd_pU, rd_pAdd1, rd_pAdd2, rd_pAdd3, rd_pAdd4, rd_pMul1, rd_pMul2, rd_pMul3, rd_pLen1, rd_pLen2, rd_pLen3, rd_pInt1, rd_pAbs, rd_pList1, rd_pList2, rd_pList3, rd_pCut1, rd_pCut2, rd_pCut3, rd_non1, rd_non2, rd_non3, rd_non4, rd_non5, rd_non6, rd_isStr, rd_pIx1, rd_pIx2, rd_pIx3, rd_pJoin1, rd_upS1, rd_upS2, rd_out1, rd_out2, rd_out3, rd_out4, rd_asL1, rd_asL2, rd_putL1, rd_putL2, rd_lkT1, rd_lkT2, rd_lkT3, rd_thT, rd_mvT1, rd_mvT2, rd_asDT, rd_asQT, rd_upT1, rd_upT2, rd_outT1, rd_outT2, rd_ref1, rd_ref2, rd_ref3, rd_ref4, rd_flat6, rd_flats0, rd_flats1, rd_er1, rd_er2, rd_er3, rd_er4, rd_ers0, rd_ers1, rd_ersL, rd_stA, rd_isi1, rd_isi2, rd_isi3, rd_isi4, rd_isX, rd_draw, rd_take, rd_pLt, rd_pLe, rd_pGt, rd_pGe, rd_pTuple1, rd_pTuple2, rd_pStr1, rd_pStr2, rd_pInt, rd_pIntS, rd_pIntB, rd_pOrd, rd_pMax, rd_pSplit, rd_pPart, rd_stO, rd_pCutS, rd_solB, rd_pIn1, rd_pNotIn1, rd_pIn2, rd_pIn3, rd_pNotIn2, rd_pNotIn3, rd_pBls, rd_pJoin2, rd_at0, rd_at1, rd_at2, rd_at3, rd_atL, rd_ixL, rd_pRepr, rd_pGt2, rd_pLt2, rd_pListU1, rd_pListU2, rd_pListU3, rd_pListU4, rd_pSindex, rd_pStarts, rd_f1, rd_pSort, rd_pSortD, rd_oF, rd_qF, rd_fCB, rd_cat, rd_rep, rd_rev, rd_isB, rd_notB, rd_ixA1, rd_ixA2, rd_ixA3, rd_ixA4, rd_ixA5, rd_treS1, rd_treS2, rd_setT1, rd_setT2, rd_slT1, rd_slT2, rd_slT3, rd_pListF]
      refine ⟨by simp, by simp, fun d hd => ?_⟩
      obtain ⟨s, rfl⟩ : ∃ s : St, d = s.d := by
        simp only [List.mem_cons, List.not_mem_nil, or_false] at hd
        rcases hd with rfl | rfl | rfl
        · exact ⟨.put 0, rfl⟩
        · exact ⟨.cut 0, rfl⟩
        · exact ⟨.keep 0 0, rfl⟩
      have e : (ts.map St.d).take v.toNat ++ [s.d] ++ (ts.map St.d).drop v.toNat = (ts.take v.toNat ++ [s] ++ ts.drop v.toNat).map St.d := by simp
      rw [e]
      refine ⟨by rw [List.length_map]; omega, g2, by omega, fin _ _ _ ?_ rfl f7⟩
      simp only [List.length_append, List.length_take, List.length_drop, List.length_cons, List.length_nil]
      omega
    have hpos : 0 < ts.length := by omega
    split
    · refine ⟨by omega, fun v g2 g3 => ?_⟩
      obtain ⟨n, rfl⟩ : ∃ n : Nat, v = n := ⟨v.toNat, by omega⟩
      have hn : n < ts.length := by omega
      refine ⟨n, ?_, by omega, by omega, _, by rw [List.getElem?_map, List.getElem?_eq_getElem hn]; rfl, ?_⟩
      · unfold ixN
        rw [if_pos (by omega), if_pos (by omega)]
        simp
      · have e : (ts.map St.d).eraseIdx n = (ts.eraseIdx n).map St.d := (Pu.map_eraseIdx St.d).symm
        rw [e]
        exact fin _ _ _ (by rw [List.length_eraseIdx]; split <;> omega) rfl f7
    split
    · refine ⟨by omega, fun v g2 g3 => ?_⟩
      obtain ⟨n, rfl⟩ : ∃ n : Nat, v = n := ⟨v.toNat, by omega⟩
      have hn : n < ts.length := by omega
      have ga : atI (ts.map St.d) (n : Int) = some (ts[n].d) := Pu.atI_nat (by rw [List.getElem?_map, List.getElem?_eq_getElem hn]; rfl)
      refine ⟨_, ga, ?_⟩
      cases hs : ts[n] with
      | keep x y =>
        rw [hs] at ga
        simp only [St.d, ofString_inj, String.reduceEq, sSeq, sSet, sIf, sRet, sRetN, sNext, sBreak, sCont, sDrop, sNever, sAsg, sPar, sAug, sApp, sExt, sSetI, sForI, sWhile, sMid, sTry, sRaise, qVar, qC, qOp, qUn, qB, qAnd, qOr, qNot, qAndV, qOrV, qNotV, qIf, qNil, qCons, qCB, qTup, qLst, qCut, qPart, qNo, qM1, qM0, qCall, qChain, qXf, eQ, eVar, eC, eOp, eUn, eIf, eNil, eCons, eCB, eTup, eLst, eO, eCut, eM1, eM0, ePop, eIxV, eAnd, eOr, eNot, eAndV, eOrV, eNotV, eChain, eCutE, eNo, ePart, oSu, iS, tB', tQ, tYes', oE, oPlus, oRep, oTre, oNew, oCompT, iR3, sPut, plVar, plIx, sIns, ePopAt, eRev, oLst, oMove, oIf, oCall, oSt, oComp, iL, iT, iR1, iR2, gN, gT, gsNil, gsCons, cNil, cVal, cRef, free_0, free_succ, ends, outs, nils, resolve, putBack, allRef, refs, wipeE, pIsN, pNotN, pEq, pNe, eqOk_ii, eqOk_ss, eqOk_bb, eqOk_ni, eqOk_in, frS_frz, frS_own, frS_nil, List.replicate, List.getElem?_cons_zero, List.getElem?_cons_succ, List.set_cons_zero, List.set_cons_succ, List.cons_append, List.nil_append, List.length_cons, List.length_nil, List.take_succ_cons, List.take_zero, List.map_cons, List.map_nil, true_and, and_true, D.int.injEq, D.str.injEq, D.lst.injEq, decide_eq_true_eq, ite_true, ite_false, if_true, if_false, reduceIte, Bool.false_eq_true, false_and, and_false, Bool.not_true, Bool.not_false, Option.some.injEq, exists_eq_left', exists_eq_left, exists_and_left, List.nodup_cons, List.nodup_nil, List.not_mem_nil, not_false_eq_true, List.mem_cons, or_false, false_or, forall_eq, forall_eq_or_imp, Slot.own.injEq, Slot.par.injEq, Slot.frz.injEq, reduceCtorEq, exists_eq', exists_eq, exists_false, decide_true, decide_false, or_self, false_implies, implies_true, forall_const, eq_self, rd_lkL1, rd_lkL2, rd_lkL3, rd_lkE1, rd_lkE2, rd_thE1, rd_thE2, rd_lkF1, rd_lkX1, rd_lkX2, rd_lkX3, rd_mvS1, rd_mvS2, rd_mvE1, rd_mvE2, rd_lsO1, rd_lsO2, rd_tpO1, rd_sol1, rd_sol2, rd_sol3, rd_sol4, rd_sol5, rd_sol6, rd_sol7, rd_flat1, rd_flat2, rd_flat3, rd_flat4, rd_flat5, rd_asD1, rd_asD2, rd_asQ1, rd_asQ2, rd_asB, rd_asI, rd_p1, rd_p2, rd_pI0, rd_pI2, rd_pU, rd_pAdd1, rd_pAdd2, rd_pAdd3, rd_pAdd4, rd_pMul1, rd_pMul2, rd_pMul3, rd_pLen1, rd_pLen2, rd_pLen3, rd_pInt1, rd_pAbs, rd_pList1, rd_pList2, rd_pList3, rd_pCut1, rd_pCut2, rd_pCut3, rd_non1, rd_non2, rd_non3, rd_non4, rd_non5, rd_non6, rd_isStr, rd_pIx1, rd_pIx2, rd_pIx3, rd_pJoin1, rd_upS1, rd_upS2, rd_out1, rd_out2, rd_out3, rd_out4, rd_asL1, rd_asL2, rd_putL1, rd_putL2, rd_lkT1, rd_lkT2, rd_lkT3, rd_thT, rd_mvT1, rd_mvT2, rd_asDT, rd_asQT, rd_upT1, rd_upT2, rd_outT1, rd_outT2, rd_ref1, rd_ref2, rd_ref3, rd_ref4, rd_flat6, rd_flats0, rd_flats1, rd_er1, rd_er2, rd_er3, rd_er4, rd_ers0, rd_ers1, rd_ersL, rd_stA, rd_isi1, rd_isi2, rd_isi3, rd_isi4, rd_isX, rd_draw, rd_take, rd_pLt, rd_pLe, rd_pGt, rd_pGe, rd_pTuple1, rd_pTuple2, rd_pStr1, rd_pStr2, rd_pInt, rd_pIntS, rd_pIntB, rd_pOrd, rd_pMax, rd_pSplit, rd_pPart, rd_stO, rd_pCutS, rd_solB, rd_pIn1, rd_pNotIn1, rd_pIn2, rd_pIn3, rd_pNotIn2, rd_pNotIn3, rd_pBls, rd_pJoin2, rd_at0, rd_at1, rd_at2, rd_at3, rd_atL, rd_ixL, rd_pRepr, rd_pGt2, rd_pLt2, rd_pListU1, rd_pListU2, rd_pListU3, rd_pListU4, rd_pSindex, rd_pStarts, rd_f1, rd_pSort, rd_pSortD, rd_oF, rd_qF, rd_fCB, rd_cat, rd_rep, rd_rev, rd_isB, rd_notB, rd_ixA1, rd_ixA2, rd_ixA3, rd_ixA4, rd_ixA5, rd_treS1, rd_treS2, rd_setT1, rd_setT2, rd_slT1, rd_slT2, rd_slT3, rd_pListF]
        refine ⟨_, ga, ?_⟩
        simp only [St.d, sSeq, sSet, sIf, sRet, sRetN, sNext, sBreak, sCont, sDrop, sNever, sAsg, sPar, sAug, sApp, sExt, sSetI, sForI, sWhile, sMid, sTry, sRaise, qVar, qC, qOp, qUn, qB, qAnd, qOr, qNot, qAndV, qOrV, qNotV, qIf, qNil, qCons, qCB, qTup, qLst, qCut, qPart, qNo, qM1, qM0, qCall, qChain, qXf, eQ, eVar, eC, eOp, eUn, eIf, eNil, eCons, eCB, eTup, eLst, eO, eCut, eM1, eM0, ePop, eIxV, eAnd, eOr, eNot, eAndV, eOrV, eNotV, eChain, eCutE, eNo, ePart, oSu, iS, tB', tQ, tYes', oE, oPlus, oRep, oTre, oNew, oCompT, iR3, sPut, plVar, plIx, sIns, ePopAt, eRev, oLst, oMove, oIf, oCall, oSt, oComp, iL, iT, iR1, iR2, gN, gT, gsNil, gsCons, cNil, cVal, cRef, free_0, free_succ, ends, outs, nils, resolve, putBack, allRef, refs, wipeE, pIsN, pNotN, pEq, pNe, eqOk_ii, eqOk_ss, eqOk_bb, eqOk_ni, eqOk_in, frS_frz, frS_own, frS_nil, List.replicate, List.getElem?_cons_zero, List.getElem?_cons_succ, List.set_cons_zero, List.set_cons_succ, List.cons_append, List.nil_append, List.length_cons, List.length_nil, List.take_succ_cons, List.take_zero, List.map_cons, List.map_nil, true_and, and_true, D.int.injEq, D.str.injEq, D.lst.injEq, decide_eq_true_eq, ite_true, ite_false, if_true, if_false, reduceIte, Bool.false_eq_true, false_and, and_false, Bool.not_true, Bool.not_false, Option.some.injEq, exists_eq_left', exists_eq_left, exists_and_left, List.nodup_cons, List.nodup_nil, List.not_mem_nil, not_false_eq_true, List.mem_cons, or_false, false_or, forall_eq, forall_eq_or_imp, Slot.own.injEq, Slot.par.injEq, Slot.frz.injEq, reduceCtorEq, exists_eq', exists_eq, exists_false, decide_true, decide_false, or_self, false_implies, implies_true, forall_const, eq_self, rd_lkL1, rd_lkL2, rd_lkL3, rd_lkE1, rd_lkE2, rd_thE1, rd_thE2, rd_lkF1, rd_lkX1, rd_lkX2, rd_lkX3, rd_mvS1, rd_mvS2, rd_mvE1, rd_mvE2, rd_lsO1, rd_lsO2, rd_tpO1, rd_sol1, rd_sol2, rd_sol3, rd_sol4, rd_sol5, rd_sol6, rd_sol7, rd_flat1, rd_flat2, rd_flat3, rd_flat4, rd_flat5, rd_asD1, rd_asD2, rd_asQ1, rd_asQ2, rd_asB, rd_asI, rd_p1, rd_p2, rd_pI0, rd_pI2, rd_pU, rd_pAdd1, rd_pAdd2, rd_pAdd3, rd_pAdd4, rd_pMul1, rd_pMul2, rd_pMul3, rd_pLen1, rd_pLen2, rd_pLen3, rd_pInt1, rd_pAbs, rd_pList1, rd_pList2, rd_pList3, rd_pCut1, rd_pCut2, rd_pCut3, rd_non1, rd_non2, rd_non3, rd_non4, rd_non5, rd_non6, rd_isStr, rd_pIx1, rd_pIx2, rd_pIx3, rd_pJoin1, rd_upS1, rd_upS2, rd_out1, rd_out2, rd_out3, rd_out4, rd_asL1, rd_asL2, rd_putL1, rd_putL2, rd_lkT1, rd_lkT2, rd_lkT3, rd_thT, rd_mvT1, rd_mvT2, rd_asDT, rd_asQT, rd_upT1, rd_upT2, rd_outT1, rd_outT2, rd_ref1, rd_ref2, rd_ref3, rd_ref4, rd_flat6, rd_flats0, rd_flats1, rd_er1, rd_er2, rd_er3, rd_er4, rd_ers0, rd_ers1, rd_ersL, rd_stA, rd_isi1, rd_isi2, rd_isi3, rd_isi4, rd_isX, rd_draw, rd_take, rd_pLt, rd_pLe, rd_pGt, rd_pGe, rd_pTuple1, rd_pTuple2, rd_pStr1, rd_pStr2, rd_pInt, rd_pIntS, rd_pIntB, rd_pOrd, rd_pMax, rd_pSplit, rd_pPart, rd_stO, rd_pCutS, rd_solB, rd_pIn1, rd_pNotIn1, rd_pIn2, rd_pIn3, rd_pNotIn2, rd_pNotIn3, rd_pBls, rd_pJoin2, rd_at0, rd_at1, rd_at2, rd_at3, rd_atL, rd_ixL, rd_pRepr, rd_pGt2, rd_pLt2, rd_pListU1, rd_pListU2, rd_pListU3, rd_pListU4, rd_pSindex, rd_pStarts, rd_f1, rd_pSort, rd_pSortD, rd_oF, rd_qF, rd_fCB, rd_cat, rd_rep, rd_rev, rd_isB, rd_notB, rd_ixA1, rd_ixA2, rd_ixA3, rd_ixA4, rd_ixA5, rd_treS1, rd_treS2, rd_setT1, rd_setT2, rd_slT1, rd_slT2, rd_slT3, rd_pListF]
        refine ⟨by omega, _, ga, ?_⟩
        simp only [St.d, sSeq, sSet, sIf, sRet, sRetN, sNext, sBreak, sCont, sDrop, sNever, sAsg, sPar, sAug, sApp, sExt, sSetI, sForI, sWhile, sMid, sTry, sRaise, qVar, qC, qOp, qUn, qB, qAnd, qOr, qNot, qAndV, qOrV, qNotV, qIf, qNil, qCons, qCB, qTup, qLst, qCut, qPart, qNo, qM1, qM0, qCall, qChain, qXf, eQ, eVar, eC, eOp, eUn, eIf, eNil, eCons, eCB, eTup, eLst, eO, eCut, eM1, eM0, ePop, eIxV, eAnd, eOr, eNot, eAndV, eOrV, eNotV, eChain, eCutE, eNo, ePart, oSu, iS, tB', tQ, tYes', oE, oPlus, oRep, oTre, oNew, oCompT, iR3, sPut, plVar, plIx, sIns, ePopAt, eRev, oLst, oMove, oIf, oCall, oSt, oComp, iL, iT, iR1, iR2, gN, gT, gsNil, gsCons, cNil, cVal, cRef, free_0, free_succ, ends, outs, nils, resolve, putBack, allRef, refs, wipeE, pIsN, pNotN, pEq, pNe, eqOk_ii, eqOk_ss, eqOk_bb, eqOk_ni, eqOk_in, frS_frz, frS_own, frS_nil, List.replicate, List.getElem?_cons_zero, List.getElem?_cons_succ, List.set_cons_zero, List.set_cons_succ, List.cons_append, List.nil_append, List.length_cons, List.length_nil, List.take_succ_cons, List.take_zero, List.map_cons, List.map_nil, true_and, and_true, D.int.injEq, D.str.injEq, D.lst.injEq, decide_eq_true_eq, ite_true, ite_false, if_true, if_false, reduceIte, Bool.false_eq_true, false_and, and_false, Bool.not_true, Bool.not_false, Option.some.injEq, exists_eq_left', exists_eq_left, exists_and_left, List.nodup_cons, List.nodup_nil, List.not_mem_nil, not_false_eq_true, List.mem_cons, or_false, false_or, forall_eq, forall_eq_or_imp, Slot.own.injEq, Slot.par.injEq, Slot.frz.injEq, reduceCtorEq, exists_eq', exists_eq, exists_false, decide_true, decide_false, or_self, false_implies, implies_true, forall_const, eq_self, rd_lkL1, rd_lkL2, rd_lkL3, rd_lkE1, rd_lkE2, rd_thE1, rd_thE2, rd_lkF1, rd_lkX1, rd_lkX2, rd_lkX3, rd_mvS1, rd_mvS2, rd_mvE1, rd_mvE2, rd_lsO1, rd_lsO2, rd_tpO1, rd_sol1, rd_sol2, rd_sol3, rd_sol4, rd_sol5, rd_sol6, rd_sol7, rd_flat1, rd_flat2, rd_flat3, rd_flat4, rd_flat5, rd_asD1, rd_asD2, rd_asQ1, rd_asQ2, rd_asB, rd_asI, rd_p1, rd_p2, rd_pI0, rd_pI2, rd_pU, rd_pAdd1, rd_pAdd2, rd_pAdd3, rd_pAdd4, rd_pMul1, rd_pMul2, rd_pMul3, rd_pLen1, rd_pLen2, rd_pLen3, rd_pInt1, rd_pAbs, rd_pList1, rd_pList2, rd_pList3, rd_pCut1, rd_pCut2, rd_pCut3, rd_non1, rd_non2, rd_non3, rd_non4, rd_non5, rd_non6, rd_isStr, rd_pIx1, rd_pIx2, rd_pIx3, rd_pJoin1, rd_upS1, rd_upS2, rd_out1, rd_out2, rd_out3, rd_out4, rd_asL1, rd_asL2, rd_putL1, rd_putL2, rd_lkT1, rd_lkT2, rd_lkT3, rd_thT, rd_mvT1, rd_mvT2, rd_asDT, rd_asQT, rd_upT1, rd_upT2, rd_outT1, rd_outT2, rd_ref1, rd_ref2, rd_ref3, rd_ref4, rd_flat6, rd_flats0, rd_flats1, rd_er1, rd_er2, rd_er3, rd_er4, rd_ers0, rd_ers1, rd_ersL, rd_stA, rd_isi1, rd_isi2, rd_isi3, rd_isi4, rd_isX, rd_draw, rd_take, rd_pLt, rd_pLe, rd_pGt, rd_pGe, rd_pTuple1, rd_pTuple2, rd_pStr1, rd_pStr2, rd_pInt, rd_pIntS, rd_pIntB, rd_pOrd, rd_pMax, rd_pSplit, rd_pPart, rd_stO, rd_pCutS, rd_solB, rd_pIn1, rd_pNotIn1, rd_pIn2, rd_pIn3, rd_pNotIn2, rd_pNotIn3, rd_pBls, rd_pJoin2, rd_at0, rd_at1, rd_at2, rd_at3, rd_atL, rd_ixL, rd_pRepr, rd_pGt2, rd_pLt2, rd_pListU1, rd_pListU2, rd_pListU3, rd_pListU4, rd_pSindex, rd_pStarts, rd_f1, rd_pSort, rd_pSortD, rd_oF, rd_qF, rd_fCB, rd_cat, rd_rep, rd_rev, rd_isB, rd_notB, rd_ixA1, rd_ixA2, rd_ixA3, rd_ixA4, rd_ixA5, rd_treS1, rd_treS2, rd_setT1, rd_setT2, rd_slT1, rd_slT2, rd_slT3, rd_pListF]
        rw [show ((n : Int) + 1) = ((n + 1 : Nat) : Int) by omega, cutD_to, cutD_from]
        have e : (ts.map St.d).take n ++ [D.tup [D.str (Str.ofString "cut"), D.int x], D.tup [D.str (Str.ofString "put"), D.int y]] ++ (ts.map St.d).drop (n + 1) = (ts.take n ++ [St.cut x, St.put y] ++ ts.drop (n + 1)).map St.d := by simp [St.d]
        have el : (ts.take n ++ [St.cut x, St.put y] ++ ts.drop (n + 1)).length = ts.length + 1 := by simp; omega
        have e0 := congrArg List.length e
        rw [List.length_map, el] at e0
        refine ⟨by omega, by omega, by simp; omega, ?_, ?_⟩
        · rw [← List.length_append, e0]; omega
        · have := fin (ts.take n ++ [St.cut x, St.put y] ++ ts.drop (n + 1)) (.frz (.int u)) (.frz (.int n)) (by omega) rfl rfl
          unfold stD at this
          rw [← e] at this
          exact this
      | cut x =>
        simp only [St.d, ofString_inj, String.reduceEq, sSeq, sSet, sIf, sRet, sRetN, sNext, sBreak, sCont, sDrop, sNever, sAsg, sPar, sAug, sApp, sExt, sSetI, sForI, sWhile, sMid, sTry, sRaise, qVar, qC, qOp, qUn, qB, qAnd, qOr, qNot, qAndV, qOrV, qNotV, qIf, qNil, qCons, qCB, qTup, qLst, qCut, qPart, qNo, qM1, qM0, qCall, qChain, qXf, eQ, eVar, eC, eOp, eUn, eIf, eNil, eCons, eCB, eTup, eLst, eO, eCut, eM1, eM0, ePop, eIxV, eAnd, eOr, eNot, eAndV, eOrV, eNotV, eChain, eCutE, eNo, ePart, oSu, iS, tB', tQ, tYes', oE, oPlus, oRep, oTre, oNew, oCompT, iR3, sPut, plVar, plIx, sIns, ePopAt, eRev, oLst, oMove, oIf, oCall, oSt, oComp, iL, iT, iR1, iR2, gN, gT, gsNil, gsCons, cNil, cVal, cRef, free_0, free_succ, ends, outs, nils, resolve, putBack, allRef, refs, wipeE, pIsN, pNotN, pEq, pNe, eqOk_ii, eqOk_ss, eqOk_bb, eqOk_ni, eqOk_in, frS_frz, frS_own, frS_nil, List.replicate, List.getElem?_cons_zero, List.getElem?_cons_succ, List.set_cons_zero, List.set_cons_succ, List.cons_append, List.nil_append, List.length_cons, List.length_nil, List.take_succ_cons, List.take_zero, List.map_cons, List.map_nil, true_and, and_true, D.int.injEq, D.str.injEq, D.lst.injEq, decide_eq_true_eq, ite_true, ite_false, if_true, if_false, reduceIte, Bool.false_eq_true, false_and, and_false, Bool.not_true, Bool.not_false, Option.some.injEq, exists_eq_left', exists_eq_left, exists_and_left, List.nodup_cons, List.nodup_nil, List.not_mem_nil, not_false_eq_true, List.mem_cons, or_false, false_or, forall_eq, forall_eq_or_imp, Slot.own.injEq, Slot.par.injEq, Slot.frz.injEq, reduceCtorEq, exists_eq', exists_eq, exists_false, decide_true, decide_false, or_self, false_implies, implies_true, forall_const, eq_self, rd_lkL1, rd_lkL2, rd_lkL3, rd_lkE1, rd_lkE2, rd_thE1, rd_thE2, rd_lkF1, rd_lkX1, rd_lkX2, rd_lkX3, rd_mvS1, rd_mvS2, rd_mvE1, rd_mvE2, rd_lsO1, rd_lsO2, rd_tpO1, rd_sol1, rd_sol2, rd_sol3, rd_sol4, rd_sol5, rd_sol6, rd_sol7, rd_flat1, rd_flat2, rd_flat3, rd_flat4, rd_flat5, rd_asD1, rd_asD2, rd_asQ1, rd_asQ2, rd_asB, rd_asI, rd_p1, rd_p2, rd_pI0, rd_pI2, rd_pU, rd_pAdd1, rd_pAdd2, rd_pAdd3, rd_pAdd4, rd_pMul1, rd_pMul2, rd_pMul3, rd_pLen1, rd_pLen2, rd_pLen3, rd_pInt1, rd_pAbs, rd_pList1, rd_pList2, rd_pList3, rd_pCut1, rd_pCut2, rd_pCut3, rd_non1, rd_non2, rd_non3, rd_non4, rd_non5, rd_non6, rd_isStr, rd_pIx1, rd_pIx2, rd_pIx3, rd_pJoin1, rd_upS1, rd_upS2, rd_out1, rd_out2, rd_out3, rd_out4, rd_asL1, rd_asL2, rd_putL1, rd_putL2, rd_lkT1, rd_lkT2, rd_lkT3, rd_thT, rd_mvT1, rd_mvT2, rd_asDT, rd_asQT, rd_upT1, rd_upT2, rd_outT1, rd_outT2, rd_ref1, rd_ref2, rd_ref3, rd_ref4, rd_flat6, rd_flats0, rd_flats1, rd_er1, rd_er2, rd_er3, rd_er4, rd_ers0, rd_ers1, rd_ersL, rd_stA, rd_isi1, rd_isi2, rd_isi3, rd_isi4, rd_isX, rd_draw, rd_take, rd_pLt, rd_pLe, rd_pGt, rd_pGe, rd_pTuple1, rd_pTuple2, rd_pStr1, rd_pStr2, rd_pInt, rd_pIntS, rd_pIntB, rd_pOrd, rd_pMax, rd_pSplit, rd_pPart, rd_stO, rd_pCutS, rd_solB, rd_pIn1, rd_pNotIn1, rd_pIn2, rd_pIn3, rd_pNotIn2, rd_pNotIn3, rd_pBls, rd_pJoin2, rd_at0, rd_at1, rd_at2, rd_at3, rd_atL, rd_ixL, rd_pRepr, rd_pGt2, rd_pLt2, rd_pListU1, rd_pListU2, rd_pListU3, rd_pListU4, rd_pSindex, rd_pStarts, rd_f1, rd_pSort, rd_pSortD, rd_oF, rd_qF, rd_fCB, rd_cat, rd_rep, rd_rev, rd_isB, rd_notB, rd_ixA1, rd_ixA2, rd_ixA3, rd_ixA4, rd_ixA5, rd_treS1, rd_treS2, rd_setT1, rd_setT2, rd_slT1, rd_slT2, rd_slT3, rd_pListF]
        exact fin ts _ _ (by omega) rfl rfl
      | put x =>
        simp only [St.d, ofString_inj, String.reduceEq, sSeq, sSet, sIf, sRet, sRetN, sNext, sBreak, sCont, sDrop, sNever, sAsg, sPar, sAug, sApp, sExt, sSetI, sForI, sWhile, sMid, sTry, sRaise, qVar, qC, qOp, qUn, qB, qAnd, qOr, qNot, qAndV, qOrV, qNotV, qIf, qNil, qCons, qCB, qTup, qLst, qCut, qPart, qNo, qM1, qM0, qCall, qChain, qXf, eQ, eVar, eC, eOp, eUn, eIf, eNil, eCons, eCB, eTup, eLst, eO, eCut, eM1, eM0, ePop, eIxV, eAnd, eOr, eNot, eAndV, eOrV, eNotV, eChain, eCutE, eNo, ePart, oSu, iS, tB', tQ, tYes', oE, oPlus, oRep, oTre, oNew, oCompT, iR3, sPut, plVar, plIx, sIns, ePopAt, eRev, oLst, oMove, oIf, oCall, oSt, oComp, iL, iT, iR1, iR2, gN, gT, gsNil, gsCons, cNil, cVal, cRef, free_0, free_succ, ends, outs, nils, resolve, putBack, allRef, refs, wipeE, pIsN, pNotN, pEq, pNe, eqOk_ii, eqOk_ss, eqOk_bb, eqOk_ni, eqOk_in, frS_frz, frS_own, frS_nil, List.replicate, List.getElem?_cons_zero, List.getElem?_cons_succ, List.set_cons_zero, List.set_cons_succ, List.cons_append, List.nil_append, List.length_cons, List.length_nil, List.take_succ_cons, List.take_zero, List.map_cons, List.map_nil, true_and, and_true, D.int.injEq, D.str.injEq, D.lst.injEq, decide_eq_true_eq, ite_true, ite_false, if_true, if_false, reduceIte, Bool.false_eq_true, false_and, and_false, Bool.not_true, Bool.not_false, Option.some.injEq, exists_eq_left', exists_eq_left, exists_and_left, List.nodup_cons, List.nodup_nil, List.not_mem_nil, not_false_eq_true, List.mem_cons, or_false, false_or, forall_eq, forall_eq_or_imp, Slot.own.injEq, Slot.par.injEq, Slot.frz.injEq, reduceCtorEq, exists_eq', exists_eq, exists_false, decide_true, decide_false, or_self, false_implies, implies_true, forall_const, eq_self, rd_lkL1, rd_lkL2, rd_lkL3, rd_lkE1, rd_lkE2, rd_thE1, rd_thE2, rd_lkF1, rd_lkX1, rd_lkX2, rd_lkX3, rd_mvS1, rd_mvS2, rd_mvE1, rd_mvE2, rd_lsO1, rd_lsO2, rd_tpO1, rd_sol1, rd_sol2, rd_sol3, rd_sol4, rd_sol5, rd_sol6, rd_sol7, rd_flat1, rd_flat2, rd_flat3, rd_flat4, rd_flat5, rd_asD1, rd_asD2, rd_asQ1, rd_asQ2, rd_asB, rd_asI, rd_p1, rd_p2, rd_pI0, rd_pI2, rd_pU, rd_pAdd1, rd_pAdd2, rd_pAdd3, rd_pAdd4, rd_pMul1, rd_pMul2, rd_pMul3, rd_pLen1, rd_pLen2, rd_pLen3, rd_pInt1, rd_pAbs, rd_pList1, rd_pList2, rd_pList3, rd_pCut1, rd_pCut2, rd_pCut3, rd_non1, rd_non2, rd_non3, rd_non4, rd_non5, rd_non6, rd_isStr, rd_pIx1, rd_pIx2, rd_pIx3, rd_pJoin1, rd_upS1, rd_upS2, rd_out1, rd_out2, rd_out3, rd_out4, rd_asL1, rd_asL2, rd_putL1, rd_putL2, rd_lkT1, rd_lkT2, rd_lkT3, rd_thT, rd_mvT1, rd_mvT2, rd_asDT, rd_asQT, rd_upT1, rd_upT2, rd_outT1, rd_outT2, rd_ref1, rd_ref2, rd_ref3, rd_ref4, rd_flat6, rd_flats0, rd_flats1, rd_er1, rd_er2, rd_er3, rd_er4, rd_ers0, rd_ers1, rd_ersL, rd_stA, rd_isi1, rd_isi2, rd_isi3, rd_isi4, rd_isX, rd_draw, rd_take, rd_pLt, rd_pLe, rd_pGt, rd_pGe, rd_pTuple1, rd_pTuple2, rd_pStr1, rd_pStr2, rd_pInt, rd_pIntS, rd_pIntB, rd_pOrd, rd_pMax, rd_pSplit, rd_pPart, rd_stO, rd_pCutS, rd_solB, rd_pIn1, rd_pNotIn1, rd_pIn2, rd_pIn3, rd_pNotIn2, rd_pNotIn3, rd_pBls, rd_pJoin2, rd_at0, rd_at1, rd_at2, rd_at3, rd_atL, rd_ixL, rd_pRepr, rd_pGt2, rd_pLt2, rd_pListU1, rd_pListU2, rd_pListU3, rd_pListU4, rd_pSindex, rd_pStarts, rd_f1, rd_pSort, rd_pSortD, rd_oF, rd_qF, rd_fCB, rd_cat, rd_rep, rd_rev, rd_isB, rd_notB, rd_ixA1, rd_ixA2, rd_ixA3, rd_ixA4, rd_ixA5, rd_treS1, rd_treS2, rd_setT1, rd_setT2, rd_slT1, rd_slT2, rd_slT3, rd_pListF]
        exact fin ts _ _ (by omega) rfl rfl
    · refine ⟨by omega, fun v g2 g3 => ?_⟩
      obtain ⟨n, rfl⟩ : ∃ n : Nat, v = n := ⟨v.toNat, by omega⟩
      rw [show ((n : Int) + 2) = ((n + 2 : Nat) : Int) by omega, cutD_to, cutD_from, cutD_nat (by omega)]
      have e : (ts.map St.d).take n ++ (((ts.map St.d).drop n).take (n + 2 - n)).reverse ++ (ts.map St.d).drop (n + 2) = (ts.take n ++ ((ts.drop n).take (n + 2 - n)).reverse ++ ts.drop (n + 2)).map St.d := by simp
      have el : (ts.take n ++ ((ts.drop n).take (n + 2 - n)).reverse ++ ts.drop (n + 2)).length = ts.length := by simp; omega
      have e0 := congrArg List.length e
      rw [List.length_map, el] at e0
      refine ⟨?_, by rw [← List.length_append, e0]; omega, ?_⟩
      · simp only [List.length_take, List.length_reverse, List.length_drop, List.length_map]
        omega
      · have := fin (ts.take n ++ ((ts.drop n).take (n + 2 - n)).reverse ++ ts.drop (n + 2)) (.frz (.int u)) (.frz (.int n)) (by omega) rfl rfl
        unfold stD at this
        rw [← e] at this
        exact this
  · rw [rng_len] at hi
    simp only [f5, f6, f7, sSeq, sSet, sIf, sRet, sRetN, sNext, sBreak, sCont, sDrop, sNever, sAsg, sPar, sAug, sApp, sExt, sSetI, sForI, sWhile, sMid, sTry, sRaise, qVar, qC, qOp, qUn, qB, qAnd, qOr, qNot, qAndV, qOrV, qNotV, qIf, qNil, qCons, qCB, qTup, qLst, qCut, qPart, qNo, qM1, qM0, qCall, qChain, qXf, eQ, eVar, eC, eOp, eUn, eIf, eNil, eCons, eCB, eTup, eLst, eO, eCut, eM1, eM0, ePop, eIxV, eAnd, eOr, eNot, eAndV, eOrV, eNotV, eChain, eCutE, eNo, ePart, oSu, iS, tB', tQ, tYes', oE, oPlus, oRep, oTre, oNew, oCompT, iR3, sPut, plVar, plIx, sIns, ePopAt, eRev, oLst, oMove, oIf, oCall, oSt, oComp, iL, iT, iR1, iR2, gN, gT, gsNil, gsCons, cNil, cVal, cRef, free_0, free_succ, ends, outs, nils, resolve, putBack, allRef, refs, wipeE, pIsN, pNotN, pEq, pNe, eqOk_ii, eqOk_ss, eqOk_bb, eqOk_ni, eqOk_in, frS_frz, frS_own, frS_nil, List.replicate, List.getElem?_cons_zero, List.getElem?_cons_succ, List.set_cons_zero, List.set_cons_succ, List.cons_append, List.nil_append, List.length_cons, List.length_nil, List.take_succ_cons, List.take_zero, List.map_cons, List.map_nil, true_and, and_true, D.int.injEq, D.str.injEq, D.lst.injEq, decide_eq_true_eq, ite_true, ite_false, if_true, if_false, reduceIte, Bool.false_eq_true, false_and, and_false, Bool.not_true, Bool.not_false, Option.some.injEq, exists_eq_left', exists_eq_left, exists_and_left, List.nodup_cons, List.nodup_nil, List.not_mem_nil, not_false_eq_true, List.mem_cons, or_false, false_or, forall_eq, forall_eq_or_imp, Slot.own.injEq, Slot.par.injEq, Slot.frz.injEq, reduceCtorEq, exists_eq', exists_eq, exists_false, decide_true, decide_false, or_self, false_implies, implies_true, forall_const, eq_self, rd_lkL1, rd_lkL2, rd_lkL3, rd_lkE1, rd_lkE2, rd_thE1, rd_thE2, rd_lkF1, rd_lkX1, rd_lkX2, rd_lkX3, rd_mvS1, rd_mvS2, rd_mvE1, rd_mvE2, rd_lsO1, rd_lsO2, rd_tpO1, rd_sol1, rd_sol2, rd_sol3, rd_sol4, rd_sol5, rd_sol6, rd_sol7, rd_flat1, rd_flat2, rd_flat3, rd_flat4, rd_flat5, rd_asD1, rd_asD2, rd_asQ1, rd_asQ2, rd_asB, rd_asI, rd_p1, rd_p2, rd_pI0, rd_pI2, rd_pU, rd_pAdd1, rd_pAdd2, rd_pAdd3, rd_pAdd4, rd_pMul1, rd_pMul2, rd_pMul3, rd_pLen1, rd_pLen2, rd_pLen3, rd_pInt1, rd_pAbs, rd_pList1, rd_pList2, rd_pList3, rd_pCut1, rd_pCut2, rd_pCut3, rd_non1, rd_non2, rd_non3, rd_non4, rd_non5, rd_non6, rd_isStr, rd_pIx1, rd_pIx2, rd_pIx3, rd_pJoin1, rd_upS1, rd_upS2, rd_out1, rd_out2, rd_out3, rd_out4, rd_asL1, rd_asL2, rd_putL1, rd_putL2, rd_lkT1, rd_lkT2, rd_lkT3, rd_thT, rd_mvT1, rd_mvT2, rd_asDT, rd_asQT, rd_upT1, rd_upT2, rd_outT1, rd_outT2, rd_ref1, rd_ref2, rd_ref3, rd_ref4, rd_flat6, rd_flats0, rd_flats1, rd_er1, rd_er2, rd_er3, rd_er4, rd_ers0, rd_ers1, rd_ersL, rd_stA, rd_isi1, rd_isi2, rd_isi3, rd_isi4, rd_isX, rd_draw, rd_take, rd_pLt, rd_pLe, rd_pGt, rd_pGe, rd_pTuple1, rd_pTuple2, rd_pStr1, rd_pStr2, rd_pInt, rd_pIntS, rd_pIntB, rd_pOrd, rd_pMax, rd_pSplit, rd_pPart, rd_stO, rd_pCutS, rd_solB, rd_pIn1, rd_pNotIn1, rd_pIn2, rd_pIn3, rd_pNotIn2, rd_pNotIn3, rd_pBls, rd_pJoin2, rd_at0, rd_at1, rd_at2, rd_at3, rd_atL, rd_ixL, rd_pRepr, rd_pGt2, rd_pLt2, rd_pListU1, rd_pListU2, rd_pListU3, rd_pListU4, rd_pSindex, rd_pStarts, rd_f1, rd_pSort, rd_pSortD, rd_oF, rd_qF, rd_fCB, rd_cat, rd_rep, rd_rev, rd_isB, rd_notB, rd_ixA1, rd_ixA2, rd_ixA3, rd_ixA4, rd_ixA5, rd_treS1, rd_treS2, rd_setT1, rd_setT2, rd_slT1, rd_slT2, rd_slT3, rd_pListF]
    exact h ts (by omega)
theorem steps_len {w : Two} : ∀ (f i j : Nat), (w.steps f i j).length ≤ f
  | 0, _, _ => by simp [Two.steps]
  | f + 1, i, j => by
    have h1 := steps_len (w := w) f (i + 1) (j + 1)
    have h2 := steps_len (w := w) f (i + 1) j
    have h3 := steps_len (w := w) f i (j + 1)
    rw [Two.steps]
    split
    · simp only [List.length_cons]; omega
    split
    · simp only [List.length_cons]; omega
    split
    · simp only [List.length_cons]; omega
    · simp
theorem steps_cnt {w : Two} : ∀ (f i j : Nat), w.a.length - i + (w.b.length - j) ≤ f → cntK (w.steps f i j) = w.l i j
  | 0, i, j, h => by
    rw [l_end1 (by omega)]
    rfl
  | f + 1, i, j, h => by
    rw [Two.steps]
    split
    · rename_i hc
      have ih := steps_cnt (w := w) f (i + 1) (j + 1) (by omega)
      rw [l_step hc.1 hc.2.1, if_pos hc.2.2, ← ih]
      rw [cntK, List.filter_cons_of_pos rfl]
      rfl
    split
    · rename_i hc
      have ih := steps_cnt (w := w) f (i + 1) j (by omega)
      rw [← hc.2, ← ih]
      simp [cntK, St.isK]
    split
    · rename_i h1 h2 h3
      have ih := steps_cnt (w := w) f i (j + 1) (by omega)
      have e : w.l i j = w.l i (j + 1) := by
        by_cases hi : i < w.a.length
        · have := l_step (w := w) hi h3
          rw [if_neg (fun z => h1 ⟨hi, h3, z⟩)] at this
          have hne : w.l (i + 1) j ≠ w.l i j := fun z => h2 ⟨hi, z⟩
          omega
        · rw [l_end1 (by omega), l_end1 (by omega)]
      rw [e, ← ih]
      simp [cntK, St.isK]
    · rename_i h1 h2 h3
      have e : w.l i j = 0 := l_end2 (by omega)
      rw [e]
      rfl
theorem steps_right {w : Two} : ∀ (f i j : Nat), i ≤ w.a.length → j ≤ w.b.length → w.a.length - i + (w.b.length - j) ≤ f → w.right i j (w.steps f i j) = true
  | 0, i, j, hi, hj, h => by
    rw [Two.steps, Two.right, decide_eq_true (by omega), decide_eq_true (by omega)]
    rfl
  | f + 1, i, j, hi, hj, h => by
    rw [Two.steps]
    split
    · rename_i hc
      have ih := steps_right (w := w) f (i + 1) (j + 1) (by omega) (by omega) (by omega)
      rw [Two.right, decide_eq_true ⟨rfl, rfl, by omega, by omega, by simpa using hc.2.2⟩]
      simpa using ih
    split
    · rename_i hc
      have ih := steps_right (w := w) f (i + 1) j (by omega) (by omega) (by omega)
      rw [Two.right, decide_eq_true ⟨rfl, by omega⟩]
      simpa using ih
    split
    · rename_i h3
      have ih := steps_right (w := w) f i (j + 1) (by omega) (by omega) (by omega)
      rw [Two.right, decide_eq_true ⟨rfl, by omega⟩]
      simpa using ih
    · rename_i h1 h2 h3
      have hi' : ¬ i < w.a.length := fun hia => h2 ⟨hia, by rw [l_end2 (by omega), l_end2 (by omega)]⟩
      rw [Two.right, decide_eq_true (by omega), decide_eq_true (by omega)]
      rfl
theorem ok_stD {k : Nat} (ss : List St) : D.ok (k + 2) (stD ss) := ok_lst.mpr fun d hd => by
  obtain ⟨s, _, rfl⟩ := List.mem_map.mp hd
  exact ok_st s
def I_law (ns : List Int) (w : Two) (k : Nat) (env : Pu.Env) : Prop := ∃ x8 x9 x10, env = [.frz (.scr ns), .own stA, .frz (.lst w.a), .frz (.lst w.b), .frz (.lst [.lst w.a, .lst w.b]), .frz (stD w.due), .frz (stD w.due), .frz (.int (w.l 0 0)), x8, x9, x10, .nil] ∧ frS x8 = true ∧ frS x9 = true ∧ frS x10 = true
theorem pp_law : ∀ as Q X, psLaw as Q X → p_law (ends 1 Q) (as ++ nils (12 - as.length)) := by
  rintro as Q X ⟨ns, rfl, hl, h⟩
  have e2 := big
  simp only [p_law, c_state, c_lists, c_steps, c_due, sSeq, sSet, sIf, sRet, sRetN, sNext, sBreak, sCont, sDrop, sNever, sAsg, sPar, sAug, sApp, sExt, sSetI, sForI, sWhile, sMid, sTry, sRaise, qVar, qC, qOp, qUn, qB, qAnd, qOr, qNot, qAndV, qOrV, qNotV, qIf, qNil, qCons, qCB, qTup, qLst, qCut, qPart, qNo, qM1, qM0, qCall, qChain, qXf, eQ, eVar, eC, eOp, eUn, eIf, eNil, eCons, eCB, eTup, eLst, eO, eCut, eM1, eM0, ePop, eIxV, eAnd, eOr, eNot, eAndV, eOrV, eNotV, eChain, eCutE, eNo, ePart, oSu, iS, tB', tQ, tYes', oE, oPlus, oRep, oTre, oNew, oCompT, iR3, sPut, plVar, plIx, sIns, ePopAt, eRev, oLst, oMove, oIf, oCall, oSt, oComp, iL, iT, iR1, iR2, gN, gT, gsNil, gsCons, cNil, cVal, cRef, free_0, free_succ, ends, outs, nils, resolve, putBack, allRef, refs, wipeE, pIsN, pNotN, pEq, pNe, eqOk_ii, eqOk_ss, eqOk_bb, eqOk_ni, eqOk_in, frS_frz, frS_own, frS_nil, List.replicate, List.getElem?_cons_zero, List.getElem?_cons_succ, List.set_cons_zero, List.set_cons_succ, List.cons_append, List.nil_append, List.length_cons, List.length_nil, List.take_succ_cons, List.take_zero, List.map_cons, List.map_nil, true_and, and_true, D.int.injEq, D.str.injEq, D.lst.injEq, decide_eq_true_eq, ite_true, ite_false, if_true, if_false, reduceIte, Bool.false_eq_true, false_and, and_false, Bool.not_true, Bool.not_false, Option.some.injEq, exists_eq_left', exists_eq_left, exists_and_left, List.nodup_cons, List.nodup_nil, List.not_mem_nil, not_false_eq_true, List.mem_cons, or_false, false_or, forall_eq, forall_eq_or_imp, Slot.own.injEq, Slot.par.injEq, Slot.frz.injEq, reduceCtorEq, exists_eq', exists_eq, exists_false, decide_true, decide_false, or_self, false_implies, implies_true, forall_const, eq_self, rd_lkL1, rd_lkL2, rd_lkL3, rd_lkE1, rd_lkE2, rd_thE1, rd_thE2, rd_lkF1, rd_lkX1, rd_lkX2, rd_lkX3, rd_mvS1, rd_mvS2, rd_mvE1, rd_mvE2, rd_lsO1, rd_lsO2, rd_tpO1, rd_sol1, rd_sol2, rd_sol3, rd_sol4, rd_sol5, rd_sol6, rd_sol7, rd_flat1, rd_flat2, rd_flat3, rd_flat4, rd_flat5, rd_asD1, rd_asD2, rd_asQ1, rd_asQ2, rd_asB, rd_asI, rd_p1, rd_p2, rd_pI0, rd_pI2, rd_pU, rd_pAdd1, rd_pAdd2, rd_pAdd3, rd_pAdd4, rd_pMul1, rd_pMul2, rd_pMul3, rd_pLen1, rd_pLen2, rd_pLen3, rd_pInt1, rd_pAbs, rd_pList1, rd_pList2, rd_pList3, rd_pCut1, rd_pCut2, rd_pCut3, rd_non1, rd_non2, rd_non3, rd_non4, rd_non5, rd_non6, rd_isStr, rd_pIx1, rd_pIx2, rd_pIx3, rd_pJoin1, rd_upS1, rd_upS2, rd_out1, rd_out2, rd_out3, rd_out4, rd_asL1, rd_asL2, rd_putL1, rd_putL2, rd_lkT1, rd_lkT2, rd_lkT3, rd_thT, rd_mvT1, rd_mvT2, rd_asDT, rd_asQT, rd_upT1, rd_upT2, rd_outT1, rd_outT2, rd_ref1, rd_ref2, rd_ref3, rd_ref4, rd_flat6, rd_flats0, rd_flats1, rd_er1, rd_er2, rd_er3, rd_er4, rd_ers0, rd_ers1, rd_ersL, rd_stA, rd_isi1, rd_isi2, rd_isi3, rd_isi4, rd_isX, rd_draw, rd_take, rd_pLt, rd_pLe, rd_pGt, rd_pGe, rd_pTuple1, rd_pTuple2, rd_pStr1, rd_pStr2, rd_pInt, rd_pIntS, rd_pIntB, rd_pOrd, rd_pMax, rd_pSplit, rd_pPart, rd_stO, rd_pCutS, rd_solB, rd_pIn1, rd_pNotIn1, rd_pIn2, rd_pIn3, rd_pNotIn2, rd_pNotIn3, rd_pBls, rd_pJoin2, rd_at0, rd_at1, rd_at2, rd_at3, rd_atL, rd_ixL, rd_pRepr, rd_pGt2, rd_pLt2, rd_pListU1, rd_pListU2, rd_pListU3, rd_pListU4, rd_pSindex, rd_pStarts, rd_f1, rd_pSort, rd_pSortD, rd_oF, rd_qF, rd_fCB, rd_cat, rd_rep, rd_rev, rd_isB, rd_notB, rd_ixA1, rd_ixA2, rd_ixA3, rd_ixA4, rd_ixA5, rd_treS1, rd_treS2, rd_setT1, rd_setT2, rd_slT1, rd_slT2, rd_slT3, rd_pListF]
  refine ⟨hl, fun w hw => ?_⟩
  have la := hw.1
  have lb := hw.2.1
  have ld : w.due.length ≤ 200 := Nat.le_trans (steps_len _ 0 0) (by omega)
  have hc : cntK w.due = w.l 0 0 := steps_cnt _ 0 0 (by omega)
  have hr : w.right 0 0 w.due = true := steps_right _ 0 0 (by omega) (by omega) (by omega)
  have okab : D.ok 60 (.lst [.lst w.a, .lst w.b]) := ok_lst.mpr fun d hd => by
    simp only [List.mem_cons, List.not_mem_nil, or_false] at hd
    rcases hd with rfl | rfl
    · exact ok_lst.mpr fun d hd => ok_it (hw.2.2.1 d hd)
    · exact ok_lst.mpr fun d hd => ok_tx (hw.2.2.2 d hd)
  refine ⟨by omega, hw, rfl, hw, eqOk_ok (ok_stD _) (ok_stD _), ?_⟩
  refine ⟨stD w.due, rfl, w.due, rfl, by omega, ?_⟩
  simp only [sSeq, sSet, sIf, sRet, sRetN, sNext, sBreak, sCont, sDrop, sNever, sAsg, sPar, sAug, sApp, sExt, sSetI, sForI, sWhile, sMid, sTry, sRaise, qVar, qC, qOp, qUn, qB, qAnd, qOr, qNot, qAndV, qOrV, qNotV, qIf, qNil, qCons, qCB, qTup, qLst, qCut, qPart, qNo, qM1, qM0, qCall, qChain, qXf, eQ, eVar, eC, eOp, eUn, eIf, eNil, eCons, eCB, eTup, eLst, eO, eCut, eM1, eM0, ePop, eIxV, eAnd, eOr, eNot, eAndV, eOrV, eNotV, eChain, eCutE, eNo, ePart, oSu, iS, tB', tQ, tYes', oE, oPlus, oRep, oTre, oNew, oCompT, iR3, sPut, plVar, plIx, sIns, ePopAt, eRev, oLst, oMove, oIf, oCall, oSt, oComp, iL, iT, iR1, iR2, gN, gT, gsNil, gsCons, cNil, cVal, cRef, free_0, free_succ, ends, outs, nils, resolve, putBack, allRef, refs, wipeE, pIsN, pNotN, pEq, pNe, eqOk_ii, eqOk_ss, eqOk_bb, eqOk_ni, eqOk_in, frS_frz, frS_own, frS_nil, List.replicate, List.getElem?_cons_zero, List.getElem?_cons_succ, List.set_cons_zero, List.set_cons_succ, List.cons_append, List.nil_append, List.length_cons, List.length_nil, List.take_succ_cons, List.take_zero, List.map_cons, List.map_nil, true_and, and_true, D.int.injEq, D.str.injEq, D.lst.injEq, decide_eq_true_eq, ite_true, ite_false, if_true, if_false, reduceIte, Bool.false_eq_true, false_and, and_false, Bool.not_true, Bool.not_false, Option.some.injEq, exists_eq_left', exists_eq_left, exists_and_left, List.nodup_cons, List.nodup_nil, List.not_mem_nil, not_false_eq_true, List.mem_cons, or_false, false_or, forall_eq, forall_eq_or_imp, Slot.own.injEq, Slot.par.injEq, Slot.frz.injEq, reduceCtorEq, exists_eq', exists_eq, exists_false, decide_true, decide_false, or_self, false_implies, implies_true, forall_const, eq_self, rd_lkL1, rd_lkL2, rd_lkL3, rd_lkE1, rd_lkE2, rd_thE1, rd_thE2, rd_lkF1, rd_lkX1, rd_lkX2, rd_lkX3, rd_mvS1, rd_mvS2, rd_mvE1, rd_mvE2, rd_lsO1, rd_lsO2, rd_tpO1, rd_sol1, rd_sol2, rd_sol3, rd_sol4, rd_sol5, rd_sol6, rd_sol7, rd_flat1, rd_flat2, rd_flat3, rd_flat4, rd_flat5, rd_asD1, rd_asD2, rd_asQ1, rd_asQ2, rd_asB, rd_asI, rd_p1, rd_p2, rd_pI0, rd_pI2, rd_pU, rd_pAdd1, rd_pAdd2, rd_pAdd3, rd_pAdd4, rd_pMul1, rd_pMul2, rd_pMul3, rd_pLen1, rd_pLen2, rd_pLen3, rd_pInt1, rd_pAbs, rd_pList1, rd_pList2, rd_pList3, rd_pCut1, rd_pCut2, rd_pCut3, rd_non1, rd_non2, rd_non3, rd_non4, rd_non5, rd_non6, rd_isStr, rd_pIx1, rd_pIx2, rd_pIx3, rd_pJoin1, rd_upS1, rd_upS2, rd_out1, rd_out2, rd_out3, rd_out4, rd_asL1, rd_asL2, rd_putL1, rd_putL2, rd_lkT1, rd_lkT2, rd_lkT3, rd_thT, rd_mvT1, rd_mvT2, rd_asDT, rd_asQT, rd_upT1, rd_upT2, rd_outT1, rd_outT2, rd_ref1, rd_ref2, rd_ref3, rd_ref4, rd_flat6, rd_flats0, rd_flats1, rd_er1, rd_er2, rd_er3, rd_er4, rd_ers0, rd_ers1, rd_ersL, rd_stA, rd_isi1, rd_isi2, rd_isi3, rd_isi4, rd_isX, rd_draw, rd_take, rd_pLt, rd_pLe, rd_pGt, rd_pGe, rd_pTuple1, rd_pTuple2, rd_pStr1, rd_pStr2, rd_pInt, rd_pIntS, rd_pIntB, rd_pOrd, rd_pMax, rd_pSplit, rd_pPart, rd_stO, rd_pCutS, rd_solB, rd_pIn1, rd_pNotIn1, rd_pIn2, rd_pIn3, rd_pNotIn2, rd_pNotIn3, rd_pBls, rd_pJoin2, rd_at0, rd_at1, rd_at2, rd_at3, rd_atL, rd_ixL, rd_pRepr, rd_pGt2, rd_pLt2, rd_pListU1, rd_pListU2, rd_pListU3, rd_pListU4, rd_pSindex, rd_pStarts, rd_f1, rd_pSort, rd_pSortD, rd_oF, rd_qF, rd_fCB, rd_cat, rd_rep, rd_rev, rd_isB, rd_notB, rd_ixA1, rd_ixA2, rd_ixA3, rd_ixA4, rd_ixA5, rd_treS1, rd_treS2, rd_setT1, rd_setT2, rd_slT1, rd_slT2, rd_slT3, rd_pListF]
  rw [show cntK w.due = w.l 0 0 from hc]
  rw [if_neg (by simp)]
  refine ⟨(w.a, w.b, stD w.due), rfl, hw, w.due, rfl, by omega, ?_⟩
  rw [show Two.right ⟨(w.a, w.b, stD w.due).1, (w.a, w.b, stD w.due).2.1⟩ 0 0 w.due = true from hr]
  simp only [sSeq, sSet, sIf, sRet, sRetN, sNext, sBreak, sCont, sDrop, sNever, sAsg, sPar, sAug, sApp, sExt, sSetI, sForI, sWhile, sMid, sTry, sRaise, qVar, qC, qOp, qUn, qB, qAnd, qOr, qNot, qAndV, qOrV, qNotV, qIf, qNil, qCons, qCB, qTup, qLst, qCut, qPart, qNo, qM1, qM0, qCall, qChain, qXf, eQ, eVar, eC, eOp, eUn, eIf, eNil, eCons, eCB, eTup, eLst, eO, eCut, eM1, eM0, ePop, eIxV, eAnd, eOr, eNot, eAndV, eOrV, eNotV, eChain, eCutE, eNo, ePart, oSu, iS, tB', tQ, tYes', oE, oPlus, oRep, oTre, oNew, oCompT, iR3, sPut, plVar, plIx, sIns, ePopAt, eRev, oLst, oMove, oIf, oCall, oSt, oComp, iL, iT, iR1, iR2, gN, gT, gsNil, gsCons, cNil, cVal, cRef, free_0, free_succ, ends, outs, nils, resolve, putBack, allRef, refs, wipeE, pIsN, pNotN, pEq, pNe, eqOk_ii, eqOk_ss, eqOk_bb, eqOk_ni, eqOk_in, frS_frz, frS_own, frS_nil, List.replicate, List.getElem?_cons_zero, List.getElem?_cons_succ, List.set_cons_zero, List.set_cons_succ, List.cons_append, List.nil_append, List.length_cons, List.length_nil, List.take_succ_cons, List.take_zero, List.map_cons, List.map_nil, true_and, and_true, D.int.injEq, D.str.injEq, D.lst.injEq, decide_eq_true_eq, ite_true, ite_false, if_true, if_false, reduceIte, Bool.false_eq_true, false_and, and_false, Bool.not_true, Bool.not_false, Option.some.injEq, exists_eq_left', exists_eq_left, exists_and_left, List.nodup_cons, List.nodup_nil, List.not_mem_nil, not_false_eq_true, List.mem_cons, or_false, false_or, forall_eq, forall_eq_or_imp, Slot.own.injEq, Slot.par.injEq, Slot.frz.injEq, reduceCtorEq, exists_eq', exists_eq, exists_false, decide_true, decide_false, or_self, false_implies, implies_true, forall_const, eq_self, rd_lkL1, rd_lkL2, rd_lkL3, rd_lkE1, rd_lkE2, rd_thE1, rd_thE2, rd_lkF1, rd_lkX1, rd_lkX2, rd_lkX3, rd_mvS1, rd_mvS2, rd_mvE1, rd_mvE2, rd_lsO1, rd_lsO2, rd_tpO1, rd_sol1, rd_sol2, rd_sol3, rd_sol4, rd_sol5, rd_sol6, rd_sol7, rd_flat1, rd_flat2, rd_flat3, rd_flat4, rd_flat5, rd_asD1, rd_asD2, rd_asQ1, rd_asQ2, rd_asB, rd_asI, rd_p1, rd_p2, rd_pI0, rd_pI2, rd_pU, rd_pAdd1, rd_pAdd2, rd_pAdd3, rd_pAdd4, rd_pMul1, rd_pMul2, rd_pMul3, rd_pLen1, rd_pLen2, rd_pLen3, rd_pInt1, rd_pAbs, rd_pList1, rd_pList2, rd_pList3, rd_pCut1, rd_pCut2, rd_pCut3, rd_non1, rd_non2, rd_non3, rd_non4, rd_non5, rd_non6, rd_isStr, rd_pIx1, rd_pIx2, rd_pIx3, rd_pJoin1, rd_upS1, rd_upS2, rd_out1, rd_out2, rd_out3, rd_out4, rd_asL1, rd_asL2, rd_putL1, rd_putL2, rd_lkT1, rd_lkT2, rd_lkT3, rd_thT, rd_mvT1, rd_mvT2, rd_asDT, rd_asQT, rd_upT1, rd_upT2, rd_outT1, rd_outT2, rd_ref1, rd_ref2, rd_ref3, rd_ref4, rd_flat6, rd_flats0, rd_flats1, rd_er1, rd_er2, rd_er3, rd_er4, rd_ers0, rd_ers1, rd_ersL, rd_stA, rd_isi1, rd_isi2, rd_isi3, rd_isi4, rd_isX, rd_draw, rd_take, rd_pLt, rd_pLe, rd_pGt, rd_pGe, rd_pTuple1, rd_pTuple2, rd_pStr1, rd_pStr2, rd_pInt, rd_pIntS, rd_pIntB, rd_pOrd, rd_pMax, rd_pSplit, rd_pPart, rd_stO, rd_pCutS, rd_solB, rd_pIn1, rd_pNotIn1, rd_pIn2, rd_pIn3, rd_pNotIn2, rd_pNotIn3, rd_pBls, rd_pJoin2, rd_at0, rd_at1, rd_at2, rd_at3, rd_atL, rd_ixL, rd_pRepr, rd_pGt2, rd_pLt2, rd_pListU1, rd_pListU2, rd_pListU3, rd_pListU4, rd_pSindex, rd_pStarts, rd_f1, rd_pSort, rd_pSortD, rd_oF, rd_qF, rd_fCB, rd_cat, rd_rep, rd_rev, rd_isB, rd_notB, rd_ixA1, rd_ixA2, rd_ixA3, rd_ixA4, rd_ixA5, rd_treS1, rd_treS2, rd_setT1, rd_setT2, rd_slT1, rd_slT2, rd_slT3, rd_pListF]
  refine ⟨by omega, I_law ns w, ⟨.nil, .nil, .nil, rfl, rfl, rfl, rfl⟩, ?_⟩
  rintro k env ⟨x8, x9, x10, rfl, f8, f9, f10⟩
  refine ⟨fun d hd => ?_, fun hi => ?_⟩
  · obtain ⟨c, hc', rfl⟩ := List.mem_map.mp (List.mem_of_getElem? hd)
    simp only [f8, f9, f10, sSeq, sSet, sIf, sRet, sRetN, sNext, sBreak, sCont, sDrop, sNever, sAsg, sPar, sAug, sApp, sExt, sSetI, sForI, sWhile, sMid, sTry, sRaise, qVar, qC, qOp, qUn, qB, qAnd, qOr, qNot, qAndV, qOrV, qNotV, qIf, qNil, qCons, qCB, qTup, qLst, qCut, qPart, qNo, qM1, qM0, qCall, qChain, qXf, eQ, eVar, eC, eOp, eUn, eIf, eNil, eCons, eCB, eTup, eLst, eO, eCut, eM1, eM0, ePop, eIxV, eAnd, eOr, eNot, eAndV, eOrV, eNotV, eChain, eCutE, eNo, ePart, oSu, iS, tB', tQ, tYes', oE, oPlus, oRep, oTre, oNew, oCompT, iR3, sPut, plVar, plIx, sIns, ePopAt, eRev, oLst, oMove, oIf, oCall, oSt, oComp, iL, iT, iR1, iR2, gN, gT, gsNil, gsCons, cNil, cVal, cRef, free_0, free_succ, ends, outs, nils, resolve, putBack, allRef, refs, wipeE, pIsN, pNotN, pEq, pNe, eqOk_ii, eqOk_ss, eqOk_bb, eqOk_ni, eqOk_in, frS_frz, frS_own, frS_nil, List.replicate, List.getElem?_cons_zero, List.getElem?_cons_succ, List.set_cons_zero, List.set_cons_succ, List.cons_append, List.nil_append, List.length_cons, List.length_nil, List.take_succ_cons, List.take_zero, List.map_cons, List.map_nil, true_and, and_true, D.int.injEq, D.str.injEq, D.lst.injEq, decide_eq_true_eq, ite_true, ite_false, if_true, if_false, reduceIte, Bool.false_eq_true, false_and, and_false, Bool.not_true, Bool.not_false, Option.some.injEq, exists_eq_left', exists_eq_left, exists_and_left, List.nodup_cons, List.nodup_nil, List.not_mem_nil, not_false_eq_true, List.mem_cons, or_false, false_or, forall_eq, forall_eq_or_imp, Slot.own.injEq, Slot.par.injEq, Slot.frz.injEq, reduceCtorEq, exists_eq', exists_eq, exists_false, decide_true, decide_false, or_self, false_implies, implies_true, forall_const, eq_self, rd_lkL1, rd_lkL2, rd_lkL3, rd_lkE1, rd_lkE2, rd_thE1, rd_thE2, rd_lkF1, rd_lkX1, rd_lkX2, rd_lkX3, rd_mvS1, rd_mvS2, rd_mvE1, rd_mvE2, rd_lsO1, rd_lsO2, rd_tpO1, rd_sol1, rd_sol2, rd_sol3, rd_sol4, rd_sol5, rd_sol6, rd_sol7, rd_flat1, rd_flat2, rd_flat3, rd_flat4, rd_flat5, rd_asD1, rd_asD2, rd_asQ1, rd_asQ2, rd_asB, rd_asI, rd_p1, rd_p2, rd_pI0, rd_pI2, rd_pU, rd_pAdd1, rd_pAdd2, rd_pAdd3, rd_pAdd4, rd_pMul1, rd_pMul2, rd_pMul3, rd_pLen1, rd_pLen2, rd_pLen3, rd_pInt1, rd_pAbs, rd_pList1, rd_pList2, rd_pList3, rd_pCut1, rd_pCut2, rd_pCut3, rd_non1, rd_non2, rd_non3, rd_non4, rd_non5, rd_non6, rd_isStr, rd_pIx1, rd_pIx2, rd_pIx3, rd_pJoin1, rd_upS1, rd_upS2, rd_out1, rd_out2, rd_out3, rd_out4, rd_asL1, rd_asL2, rd_putL1, rd_putL2, rd_lkT1, rd_lkT2, rd_lkT3, rd_thT, rd_mvT1, rd_mvT2, rd_asDT, rd_asQT, rd_upT1, rd_upT2, rd_outT1, rd_outT2, rd_ref1, rd_ref2, rd_ref3, rd_ref4, rd_flat6, rd_flats0, rd_flats1, rd_er1, rd_er2, rd_er3, rd_er4, rd_ers0, rd_ers1, rd_ersL, rd_stA, rd_isi1, rd_isi2, rd_isi3, rd_isi4, rd_isX, rd_draw, rd_take, rd_pLt, rd_pLe, rd_pGt, rd_pGe, rd_pTuple1, rd_pTuple2, rd_pStr1, rd_pStr2, rd_pInt, rd_pIntS, rd_pIntB, rd_pOrd, rd_pMax, rd_pSplit, rd_pPart, rd_stO, rd_pCutS, rd_solB, rd_pIn1, rd_pNotIn1, rd_pIn2, rd_pIn3, rd_pNotIn2, rd_pNotIn3, rd_pBls, rd_pJoin2, rd_at0, rd_at1, rd_at2, rd_at3, rd_atL, rd_ixL, rd_pRepr, rd_pGt2, rd_pLt2, rd_pListU1, rd_pListU2, rd_pListU3, rd_pListU4, rd_pSindex, rd_pStarts, rd_f1, rd_pSort, rd_pSortD, rd_oF, rd_qF, rd_fCB, rd_cat, rd_rep, rd_rev, rd_isB, rd_notB, rd_ixA1, rd_ixA2, rd_ixA3, rd_ixA4, rd_ixA5, rd_treS1, rd_treS2, rd_setT1, rd_setT2, rd_slT1, rd_slT2, rd_slT3, rd_pListF]
    refine ⟨(w.a, w.b, stD w.due), rfl, hw, w.due, rfl, by omega, fun ts hts => ?_⟩
    simp only [f8, f9, f10, sSeq, sSet, sIf, sRet, sRetN, sNext, sBreak, sCont, sDrop, sNever, sAsg, sPar, sAug, sApp, sExt, sSetI, sForI, sWhile, sMid, sTry, sRaise, qVar, qC, qOp, qUn, qB, qAnd, qOr, qNot, qAndV, qOrV, qNotV, qIf, qNil, qCons, qCB, qTup, qLst, qCut, qPart, qNo, qM1, qM0, qCall, qChain, qXf, eQ, eVar, eC, eOp, eUn, eIf, eNil, eCons, eCB, eTup, eLst, eO, eCut, eM1, eM0, ePop, eIxV, eAnd, eOr, eNot, eAndV, eOrV, eNotV, eChain, eCutE, eNo, ePart, oSu, iS, tB', tQ, tYes', oE, oPlus, oRep, oTre, oNew, oCompT, iR3, sPut, plVar, plIx, sIns, ePopAt, eRev, oLst, oMove, oIf, oCall, oSt, oComp, iL, iT, iR1, iR2, gN, gT, gsNil, gsCons, cNil, cVal, cRef, free_0, free_succ, ends, outs, nils, resolve, putBack, allRef, refs, wipeE, pIsN, pNotN, pEq, pNe, eqOk_ii, eqOk_ss, eqOk_bb, eqOk_ni, eqOk_in, frS_frz, frS_own, frS_nil, List.replicate, List.getElem?_cons_zero, List.getElem?_cons_succ, List.set_cons_zero, List.set_cons_succ, List.cons_append, List.nil_append, List.length_cons, List.length_nil, List.take_succ_cons, List.take_zero, List.map_cons, List.map_nil, true_and, and_true, D.int.injEq, D.str.injEq, D.lst.injEq, decide_eq_true_eq, ite_true, ite_false, if_true, if_false, reduceIte, Bool.false_eq_true, false_and, and_false, Bool.not_true, Bool.not_false, Option.some.injEq, exists_eq_left', exists_eq_left, exists_and_left, List.nodup_cons, List.nodup_nil, List.not_mem_nil, not_false_eq_true, List.mem_cons, or_false, false_or, forall_eq, forall_eq_or_imp, Slot.own.injEq, Slot.par.injEq, Slot.frz.injEq, reduceCtorEq, exists_eq', exists_eq, exists_false, decide_true, decide_false, or_self, false_implies, implies_true, forall_const, eq_self, rd_lkL1, rd_lkL2, rd_lkL3, rd_lkE1, rd_lkE2, rd_thE1, rd_thE2, rd_lkF1, rd_lkX1, rd_lkX2, rd_lkX3, rd_mvS1, rd_mvS2, rd_mvE1, rd_mvE2, rd_lsO1, rd_lsO2, rd_tpO1, rd_sol1, rd_sol2, rd_sol3, rd_sol4, rd_sol5, rd_sol6, rd_sol7, rd_flat1, rd_flat2, rd_flat3, rd_flat4, rd_flat5, rd_asD1, rd_asD2, rd_asQ1, rd_asQ2, rd_asB, rd_asI, rd_p1, rd_p2, rd_pI0, rd_pI2, rd_pU, rd_pAdd1, rd_pAdd2, rd_pAdd3, rd_pAdd4, rd_pMul1, rd_pMul2, rd_pMul3, rd_pLen1, rd_pLen2, rd_pLen3, rd_pInt1, rd_pAbs, rd_pList1, rd_pList2, rd_pList3, rd_pCut1, rd_pCut2, rd_pCut3, rd_non1, rd_non2, rd_non3, rd_non4, rd_non5, rd_non6, rd_isStr, rd_pIx1, rd_pIx2, rd_pIx3, rd_pJoin1, rd_upS1, rd_upS2, rd_out1, rd_out2, rd_out3, rd_out4, rd_asL1, rd_asL2, rd_putL1, rd_putL2, rd_lkT1, rd_lkT2, rd_lkT3, rd_thT, rd_mvT1, rd_mvT2, rd_asDT, rd_asQT, rd_upT1, rd_upT2, rd_outT1, rd_outT2, rd_ref1, rd_ref2, rd_ref3, rd_ref4, rd_flat6, rd_flats0, rd_flats1, rd_er1, rd_er2, rd_er3, rd_er4, rd_ers0, rd_ers1, rd_ersL, rd_stA, rd_isi1, rd_isi2, rd_isi3, rd_isi4, rd_isX, rd_draw, rd_take, rd_pLt, rd_pLe, rd_pGt, rd_pGe, rd_pTuple1, rd_pTuple2, rd_pStr1, rd_pStr2, rd_pInt, rd_pIntS, rd_pIntB, rd_pOrd, rd_pMax, rd_pSplit, rd_pPart, rd_stO, rd_pCutS, rd_solB, rd_pIn1, rd_pNotIn1, rd_pIn2, rd_pIn3, rd_pNotIn2, rd_pNotIn3, rd_pBls, rd_pJoin2, rd_at0, rd_at1, rd_at2, rd_at3, rd_atL, rd_ixL, rd_pRepr, rd_pGt2, rd_pLt2, rd_pListU1, rd_pListU2, rd_pListU3, rd_pListU4, rd_pSindex, rd_pStarts, rd_f1, rd_pSort, rd_pSortD, rd_oF, rd_qF, rd_fCB, rd_cat, rd_rep, rd_rev, rd_isB, rd_notB, rd_ixA1, rd_ixA2, rd_ixA3, rd_ixA4, rd_ixA5, rd_treS1, rd_treS2, rd_setT1, rd_setT2, rd_slT1, rd_slT2, rd_slT3, rd_pListF]
    refine ⟨rfl, ?_⟩
    refine ⟨(w.a, w.b, stD ts), rfl, hw, ts, rfl, hts, ?_⟩
    have isi : ∀ {b : Bool} {Q : D → Prop}, Q (.bl true) → pIsi (.bl b) (.ty "bool") Q := fun h => .inl ⟨rfl, h⟩
    simp only [f8, f9, f10, sSeq, sSet, sIf, sRet, sRetN, sNext, sBreak, sCont, sDrop, sNever, sAsg, sPar, sAug, sApp, sExt, sSetI, sForI, sWhile, sMid, sTry, sRaise, qVar, qC, qOp, qUn, qB, qAnd, qOr, qNot, qAndV, qOrV, qNotV, qIf, qNil, qCons, qCB, qTup, qLst, qCut, qPart, qNo, qM1, qM0, qCall, qChain, qXf, eQ, eVar, eC, eOp, eUn, eIf, eNil, eCons, eCB, eTup, eLst, eO, eCut, eM1, eM0, ePop, eIxV, eAnd, eOr, eNot, eAndV, eOrV, eNotV, eChain, eCutE, eNo, ePart, oSu, iS, tB', tQ, tYes', oE, oPlus, oRep, oTre, oNew, oCompT, iR3, sPut, plVar, plIx, sIns, ePopAt, eRev, oLst, oMove, oIf, oCall, oSt, oComp, iL, iT, iR1, iR2, gN, gT, gsNil, gsCons, cNil, cVal, cRef, free_0, free_succ, ends, outs, nils, resolve, putBack, allRef, refs, wipeE, pIsN, pNotN, pEq, pNe, eqOk_ii, eqOk_ss, eqOk_bb, eqOk_ni, eqOk_in, frS_frz, frS_own, frS_nil, List.replicate, List.getElem?_cons_zero, List.getElem?_cons_succ, List.set_cons_zero, List.set_cons_succ, List.cons_append, List.nil_append, List.length_cons, List.length_nil, List.take_succ_cons, List.take_zero, List.map_cons, List.map_nil, true_and, and_true, D.int.injEq, D.str.injEq, D.lst.injEq, decide_eq_true_eq, ite_true, ite_false, if_true, if_false, reduceIte, Bool.false_eq_true, false_and, and_false, Bool.not_true, Bool.not_false, Option.some.injEq, exists_eq_left', exists_eq_left, exists_and_left, List.nodup_cons, List.nodup_nil, List.not_mem_nil, not_false_eq_true, List.mem_cons, or_false, false_or, forall_eq, forall_eq_or_imp, Slot.own.injEq, Slot.par.injEq, Slot.frz.injEq, reduceCtorEq, exists_eq', exists_eq, exists_false, decide_true, decide_false, or_self, false_implies, implies_true, forall_const, eq_self, rd_lkL1, rd_lkL2, rd_lkL3, rd_lkE1, rd_lkE2, rd_thE1, rd_thE2, rd_lkF1, rd_lkX1, rd_lkX2, rd_lkX3, rd_mvS1, rd_mvS2, rd_mvE1, rd_mvE2, rd_lsO1, rd_lsO2, rd_tpO1, rd_sol1, rd_sol2, rd_sol3, rd_sol4, rd_sol5, rd_sol6, rd_sol7, rd_flat1, rd_flat2, rd_flat3, rd_flat4, rd_flat5, rd_asD1, rd_asD2, rd_asQ1, rd_asQ2, rd_asB, rd_asI, rd_p1, rd_p2, rd_pI0, rd_pI2, rd_pU, rd_pAdd1, rd_pAdd2, rd_pAdd3, rd_pAdd4, rd_pMul1, rd_pMul2, rd_pMul3, rd_pLen1, rd_pLen2, rd_pLen3, rd_pInt1, rd_pAbs, rd_pList1, rd_pList2, rd_pList3, rd_pCut1, rd_pCut2, rd_pCut3, rd_non1, rd_non2, rd_non3, rd_non4, rd_non5, rd_non6, rd_isStr, rd_pIx1, rd_pIx2, rd_pIx3, rd_pJoin1, rd_upS1, rd_upS2, rd_out1, rd_out2, rd_out3, rd_out4, rd_asL1, rd_asL2, rd_putL1, rd_putL2, rd_lkT1, rd_lkT2, rd_lkT3, rd_thT, rd_mvT1, rd_mvT2, rd_asDT, rd_asQT, rd_upT1, rd_upT2, rd_outT1, rd_outT2, rd_ref1, rd_ref2, rd_ref3, rd_ref4, rd_flat6, rd_flats0, rd_flats1, rd_er1, rd_er2, rd_er3, rd_er4, rd_ers0, rd_ers1, rd_ersL, rd_stA, rd_isi1, rd_isi2, rd_isi3, rd_isi4, rd_isX, rd_draw, rd_take, rd_pLt, rd_pLe, rd_pGt, rd_pGe, rd_pTuple1, rd_pTuple2, rd_pStr1, rd_pStr2, rd_pInt, rd_pIntS, rd_pIntB, rd_pOrd, rd_pMax, rd_pSplit, rd_pPart, rd_stO, rd_pCutS, rd_solB, rd_pIn1, rd_pNotIn1, rd_pIn2, rd_pIn3, rd_pNotIn2, rd_pNotIn3, rd_pBls, rd_pJoin2, rd_at0, rd_at1, rd_at2, rd_at3, rd_atL, rd_ixL, rd_pRepr, rd_pGt2, rd_pLt2, rd_pListU1, rd_pListU2, rd_pListU3, rd_pListU4, rd_pSindex, rd_pStarts, rd_f1, rd_pSort, rd_pSortD, rd_oF, rd_qF, rd_fCB, rd_cat, rd_rep, rd_rev, rd_isB, rd_notB, rd_ixA1, rd_ixA2, rd_ixA3, rd_ixA4, rd_ixA5, rd_treS1, rd_treS2, rd_setT1, rd_setT2, rd_slT1, rd_slT2, rd_slT3, rd_pListF]
    refine isi ?_
    simp only [f8, f9, f10, sSeq, sSet, sIf, sRet, sRetN, sNext, sBreak, sCont, sDrop, sNever, sAsg, sPar, sAug, sApp, sExt, sSetI, sForI, sWhile, sMid, sTry, sRaise, qVar, qC, qOp, qUn, qB, qAnd, qOr, qNot, qAndV, qOrV, qNotV, qIf, qNil, qCons, qCB, qTup, qLst, qCut, qPart, qNo, qM1, qM0, qCall, qChain, qXf, eQ, eVar, eC, eOp, eUn, eIf, eNil, eCons, eCB, eTup, eLst, eO, eCut, eM1, eM0, ePop, eIxV, eAnd, eOr, eNot, eAndV, eOrV, eNotV, eChain, eCutE, eNo, ePart, oSu, iS, tB', tQ, tYes', oE, oPlus, oRep, oTre, oNew, oCompT, iR3, sPut, plVar, plIx, sIns, ePopAt, eRev, oLst, oMove, oIf, oCall, oSt, oComp, iL, iT, iR1, iR2, gN, gT, gsNil, gsCons, cNil, cVal, cRef, free_0, free_succ, ends, outs, nils, resolve, putBack, allRef, refs, wipeE, pIsN, pNotN, pEq, pNe, eqOk_ii, eqOk_ss, eqOk_bb, eqOk_ni, eqOk_in, frS_frz, frS_own, frS_nil, List.replicate, List.getElem?_cons_zero, List.getElem?_cons_succ, List.set_cons_zero, List.set_cons_succ, List.cons_append, List.nil_append, List.length_cons, List.length_nil, List.take_succ_cons, List.take_zero, List.map_cons, List.map_nil, true_and, and_true, D.int.injEq, D.str.injEq, D.lst.injEq, decide_eq_true_eq, ite_true, ite_false, if_true, if_false, reduceIte, Bool.false_eq_true, false_and, and_false, Bool.not_true, Bool.not_false, Option.some.injEq, exists_eq_left', exists_eq_left, exists_and_left, List.nodup_cons, List.nodup_nil, List.not_mem_nil, not_false_eq_true, List.mem_cons, or_false, false_or, forall_eq, forall_eq_or_imp, Slot.own.injEq, Slot.par.injEq, Slot.frz.injEq, reduceCtorEq, exists_eq', exists_eq, exists_false, decide_true, decide_false, or_self, false_implies, implies_true, forall_const, eq_self, rd_lkL1, rd_lkL2, rd_lkL3, rd_lkE1, rd_lkE2, rd_thE1, rd_thE2, rd_lkF1, rd_lkX1, rd_lkX2, rd_lkX3, rd_mvS1, rd_mvS2, rd_mvE1, rd_mvE2, rd_lsO1, rd_lsO2, rd_tpO1, rd_sol1, rd_sol2, rd_sol3, rd_sol4, rd_sol5, rd_sol6, rd_sol7, rd_flat1, rd_flat2, rd_flat3, rd_flat4, rd_flat5, rd_asD1, rd_asD2, rd_asQ1, rd_asQ2, rd_asB, rd_asI, rd_p1, rd_p2, rd_pI0, rd_pI2, rd_pU, rd_pAdd1, rd_pAdd2, rd_pAdd3, rd_pAdd4, rd_pMul1, rd_pMul2, rd_pMul3, rd_pLen1, rd_pLen2, rd_pLen3, rd_pInt1, rd_pAbs, rd_pList1, rd_pList2, rd_pList3, rd_pCut1, rd_pCut2, rd_pCut3, rd_non1, rd_non2, rd_non3, rd_non4, rd_non5, rd_non6, rd_isStr, rd_pIx1, rd_pIx2, rd_pIx3, rd_pJoin1, rd_upS1, rd_upS2, rd_out1, rd_out2, rd_out3, rd_out4, rd_asL1, rd_asL2, rd_putL1, rd_putL2, rd_lkT1, rd_lkT2, rd_lkT3, rd_thT, rd_mvT1, rd_mvT2, rd_asDT, rd_asQT, rd_upT1, rd_upT2, rd_outT1, rd_outT2, rd_ref1, rd_ref2, rd_ref3, rd_ref4, rd_flat6, rd_flats0, rd_flats1, rd_er1, rd_er2, rd_er3, rd_er4, rd_ers0, rd_ers1, rd_ersL, rd_stA, rd_isi1, rd_isi2, rd_isi3, rd_isi4, rd_isX, rd_draw, rd_take, rd_pLt, rd_pLe, rd_pGt, rd_pGe, rd_pTuple1, rd_pTuple2, rd_pStr1, rd_pStr2, rd_pInt, rd_pIntS, rd_pIntB, rd_pOrd, rd_pMax, rd_pSplit, rd_pPart, rd_stO, rd_pCutS, rd_solB, rd_pIn1, rd_pNotIn1, rd_pIn2, rd_pIn3, rd_pNotIn2, rd_pNotIn3, rd_pBls, rd_pJoin2, rd_at0, rd_at1, rd_at2, rd_at3, rd_atL, rd_ixL, rd_pRepr, rd_pGt2, rd_pLt2, rd_pListU1, rd_pListU2, rd_pListU3, rd_pListU4, rd_pSindex, rd_pStarts, rd_f1, rd_pSort, rd_pSortD, rd_oF, rd_qF, rd_fCB, rd_cat, rd_rep, rd_rev, rd_isB, rd_notB, rd_ixA1, rd_ixA2, rd_ixA3, rd_ixA4, rd_ixA5, rd_treS1, rd_treS2, rd_setT1, rd_setT2, rd_slT1, rd_slT2, rd_slT3, rd_pListF]
    refine ⟨(w.a, w.b, stD ts), rfl, hw, ts, rfl, hts, ?_⟩
    simp only [f8, f9, f10, sSeq, sSet, sIf, sRet, sRetN, sNext, sBreak, sCont, sDrop, sNever, sAsg, sPar, sAug, sApp, sExt, sSetI, sForI, sWhile, sMid, sTry, sRaise, qVar, qC, qOp, qUn, qB, qAnd, qOr, qNot, qAndV, qOrV, qNotV, qIf, qNil, qCons, qCB, qTup, qLst, qCut, qPart, qNo, qM1, qM0, qCall, qChain, qXf, eQ, eVar, eC, eOp, eUn, eIf, eNil, eCons, eCB, eTup, eLst, eO, eCut, eM1, eM0, ePop, eIxV, eAnd, eOr, eNot, eAndV, eOrV, eNotV, eChain, eCutE, eNo, ePart, oSu, iS, tB', tQ, tYes', oE, oPlus, oRep, oTre, oNew, oCompT, iR3, sPut, plVar, plIx, sIns, ePopAt, eRev, oLst, oMove, oIf, oCall, oSt, oComp, iL, iT, iR1, iR2, gN, gT, gsNil, gsCons, cNil, cVal, cRef, free_0, free_succ, ends, outs, nils, resolve, putBack, allRef, refs, wipeE, pIsN, pNotN, pEq, pNe, eqOk_ii, eqOk_ss, eqOk_bb, eqOk_ni, eqOk_in, frS_frz, frS_own, frS_nil, List.replicate, List.getElem?_cons_zero, List.getElem?_cons_succ, List.set_cons_zero, List.set_cons_succ, List.cons_append, List.nil_append, List.length_cons, List.length_nil, List.take_succ_cons, List.take_zero, List.map_cons, List.map_nil, true_and, and_true, D.int.injEq, D.str.injEq, D.lst.injEq, decide_eq_true_eq, ite_true, ite_false, if_true, if_false, reduceIte, Bool.false_eq_true, false_and, and_false, Bool.not_true, Bool.not_false, Option.some.injEq, exists_eq_left', exists_eq_left, exists_and_left, List.nodup_cons, List.nodup_nil, List.not_mem_nil, not_false_eq_true, List.mem_cons, or_false, false_or, forall_eq, forall_eq_or_imp, Slot.own.injEq, Slot.par.injEq, Slot.frz.injEq, reduceCtorEq, exists_eq', exists_eq, exists_false, decide_true, decide_false, or_self, false_implies, implies_true, forall_const, eq_self, rd_lkL1, rd_lkL2, rd_lkL3, rd_lkE1, rd_lkE2, rd_thE1, rd_thE2, rd_lkF1, rd_lkX1, rd_lkX2, rd_lkX3, rd_mvS1, rd_mvS2, rd_mvE1, rd_mvE2, rd_lsO1, rd_lsO2, rd_tpO1, rd_sol1, rd_sol2, rd_sol3, rd_sol4, rd_sol5, rd_sol6, rd_sol7, rd_flat1, rd_flat2, rd_flat3, rd_flat4, rd_flat5, rd_asD1, rd_asD2, rd_asQ1, rd_asQ2, rd_asB, rd_asI, rd_p1, rd_p2, rd_pI0, rd_pI2, rd_pU, rd_pAdd1, rd_pAdd2, rd_pAdd3, rd_pAdd4, rd_pMul1, rd_pMul2, rd_pMul3, rd_pLen1, rd_pLen2, rd_pLen3, rd_pInt1, rd_pAbs, rd_pList1, rd_pList2, rd_pList3, rd_pCut1, rd_pCut2, rd_pCut3, rd_non1, rd_non2, rd_non3, rd_non4, rd_non5, rd_non6, rd_isStr, rd_pIx1, rd_pIx2, rd_pIx3, rd_pJoin1, rd_upS1, rd_upS2, rd_out1, rd_out2, rd_out3, rd_out4, rd_asL1, rd_asL2, rd_putL1, rd_putL2, rd_lkT1, rd_lkT2, rd_lkT3, rd_thT, rd_mvT1, rd_mvT2, rd_asDT, rd_asQT, rd_upT1, rd_upT2, rd_outT1, rd_outT2, rd_ref1, rd_ref2, rd_ref3, rd_ref4, rd_flat6, rd_flats0, rd_flats1, rd_er1, rd_er2, rd_er3, rd_er4, rd_ers0, rd_ers1, rd_ersL, rd_stA, rd_isi1, rd_isi2, rd_isi3, rd_isi4, rd_isX, rd_draw, rd_take, rd_pLt, rd_pLe, rd_pGt, rd_pGe, rd_pTuple1, rd_pTuple2, rd_pStr1, rd_pStr2, rd_pInt, rd_pIntS, rd_pIntB, rd_pOrd, rd_pMax, rd_pSplit, rd_pPart, rd_stO, rd_pCutS, rd_solB, rd_pIn1, rd_pNotIn1, rd_pIn2, rd_pIn3, rd_pNotIn2, rd_pNotIn3, rd_pBls, rd_pJoin2, rd_at0, rd_at1, rd_at2, rd_at3, rd_atL, rd_ixL, rd_pRepr, rd_pGt2, rd_pLt2, rd_pListU1, rd_pListU2, rd_pListU3, rd_pListU4, rd_pSindex, rd_pStarts, rd_f1, rd_pSort, rd_pSortD, rd_oF, rd_qF, rd_fCB, rd_cat, rd_rep, rd_rev, rd_isB, rd_notB, rd_ixA1, rd_ixA2, rd_ixA3, rd_ixA4, rd_ixA5, rd_treS1, rd_treS2, rd_setT1, rd_setT2, rd_slT1, rd_slT2, rd_slT3, rd_pListF]
    refine ⟨stD ts, rfl, ts, rfl, hts, ?_⟩
    simp only [f8, f9, f10, stD, sSeq, sSet, sIf, sRet, sRetN, sNext, sBreak, sCont, sDrop, sNever, sAsg, sPar, sAug, sApp, sExt, sSetI, sForI, sWhile, sMid, sTry, sRaise, qVar, qC, qOp, qUn, qB, qAnd, qOr, qNot, qAndV, qOrV, qNotV, qIf, qNil, qCons, qCB, qTup, qLst, qCut, qPart, qNo, qM1, qM0, qCall, qChain, qXf, eQ, eVar, eC, eOp, eUn, eIf, eNil, eCons, eCB, eTup, eLst, eO, eCut, eM1, eM0, ePop, eIxV, eAnd, eOr, eNot, eAndV, eOrV, eNotV, eChain, eCutE, eNo, ePart, oSu, iS, tB', tQ, tYes', oE, oPlus, oRep, oTre, oNew, oCompT, iR3, sPut, plVar, plIx, sIns, ePopAt, eRev, oLst, oMove, oIf, oCall, oSt, oComp, iL, iT, iR1, iR2, gN, gT, gsNil, gsCons, cNil, cVal, cRef, free_0, free_succ, ends, outs, nils, resolve, putBack, allRef, refs, wipeE, pIsN, pNotN, pEq, pNe, eqOk_ii, eqOk_ss, eqOk_bb, eqOk_ni, eqOk_in, frS_frz, frS_own, frS_nil, List.replicate, List.getElem?_cons_zero, List.getElem?_cons_succ, List.set_cons_zero, List.set_cons_succ, List.cons_append, List.nil_append, List.length_cons, List.length_nil, List.take_succ_cons, List.take_zero, List.map_cons, List.map_nil, true_and, and_true, D.int.injEq, D.str.injEq, D.lst.injEq, decide_eq_true_eq, ite_true, ite_false, if_true, if_false, reduceIte, Bool.false_eq_true, false_and, and_false, Bool.not_true, Bool.not_false, Option.some.injEq, exists_eq_left', exists_eq_left, exists_and_left, List.nodup_cons, List.nodup_nil, List.not_mem_nil, not_false_eq_true, List.mem_cons, or_false, false_or, forall_eq, forall_eq_or_imp, Slot.own.injEq, Slot.par.injEq, Slot.frz.injEq, reduceCtorEq, exists_eq', exists_eq, exists_false, decide_true, decide_false, or_self, false_implies, implies_true, forall_const, eq_self, rd_lkL1, rd_lkL2, rd_lkL3, rd_lkE1, rd_lkE2, rd_thE1, rd_thE2, rd_lkF1, rd_lkX1, rd_lkX2, rd_lkX3, rd_mvS1, rd_mvS2, rd_mvE1, rd_mvE2, rd_lsO1, rd_lsO2, rd_tpO1, rd_sol1, rd_sol2, rd_sol3, rd_sol4, rd_sol5, rd_sol6, rd_sol7, rd_flat1, rd_flat2, rd_flat3, rd_flat4, rd_flat5, rd_asD1, rd_asD2, rd_asQ1, rd_asQ2, rd_asB, rd_asI, rd_p1, rd_p2, rd_pI0, rd_pI2, rd_pU, rd_pAdd1, rd_pAdd2, rd_pAdd3, rd_pAdd4, rd_pMul1, rd_pMul2, rd_pMul3, rd_pLen1, rd_pLen2, rd_pLen3, rd_pInt1, rd_pAbs, rd_pList1, rd_pList2, rd_pList3, rd_pCut1, rd_pCut2, rd_pCut3, rd_non1, rd_non2, rd_non3, rd_non4, rd_non5, rd_non6, rd_isStr, rd_pIx1, rd_pIx2, rd_pIx3, rd_pJoin1, rd_upS1, rd_upS2, rd_out1, rd_out2, rd_out3, rd_out4, rd_asL1, rd_asL2, rd_putL1, rd_putL2, rd_lkT1, rd_lkT2, rd_lkT3, rd_thT, rd_mvT1, rd_mvT2, rd_asDT, rd_asQT, rd_upT1, rd_upT2, rd_outT1, rd_outT2, rd_ref1, rd_ref2, rd_ref3, rd_ref4, rd_flat6, rd_flats0, rd_flats1, rd_er1, rd_er2, rd_er3, rd_er4, rd_ers0, rd_ers1, rd_ersL, rd_stA, rd_isi1, rd_isi2, rd_isi3, rd_isi4, rd_isX, rd_draw, rd_take, rd_pLt, rd_pLe, rd_pGt, rd_pGe, rd_pTuple1, rd_pTuple2, rd_pStr1, rd_pStr2, rd_pInt, rd_pIntS, rd_pIntB, rd_pOrd, rd_pMax, rd_pSplit, rd_pPart, rd_stO, rd_pCutS, rd_solB, rd_pIn1, rd_pNotIn1, rd_pIn2, rd_pIn3, rd_pNotIn2, rd_pNotIn3, rd_pBls, rd_pJoin2, rd_at0, rd_at1, rd_at2, rd_at3, rd_atL, rd_ixL, rd_pRepr, rd_pGt2, rd_pLt2, rd_pListU1, rd_pListU2, rd_pListU3, rd_pListU4, rd_pSindex, rd_pStarts, rd_f1, rd_pSort, rd_pSortD, rd_oF, rd_qF, rd_fCB, rd_cat, rd_rep, rd_rev, rd_isB, rd_notB, rd_ixA1, rd_ixA2, rd_ixA3, rd_ixA4, rd_ixA5, rd_treS1, rd_treS2, rd_setT1, rd_setT2, rd_slT1, rd_slT2, rd_slT3, rd_pListF]
    refine comp_keep St.d St.isK (by omega) (fun s hs K k1 k0 => ?_) ?_
    · cases s <;> simp only [St.d, ofString_inj, String.reduceEq, sSeq, sSet, sIf, sRet, sRetN, sNext, sBreak, sCont, sDrop, sNever, sAsg, sPar, sAug, sApp, sExt, sSetI, sForI, sWhile, sMid, sTry, sRaise, qVar, qC, qOp, qUn, qB, qAnd, qOr, qNot, qAndV, qOrV, qNotV, qIf, qNil, qCons, qCB, qTup, qLst, qCut, qPart, qNo, qM1, qM0, qCall, qChain, qXf, eQ, eVar, eC, eOp, eUn, eIf, eNil, eCons, eCB, eTup, eLst, eO, eCut, eM1, eM0, ePop, eIxV, eAnd, eOr, eNot, eAndV, eOrV, eNotV, eChain, eCutE, eNo, ePart, oSu, iS, tB', tQ, tYes', oE, oPlus, oRep, oTre, oNew, oCompT, iR3, sPut, plVar, plIx, sIns, ePopAt, eRev, oLst, oMove, oIf, oCall, oSt, oComp, iL, iT, iR1, iR2, gN, gT, gsNil, gsCons, cNil, cVal, cRef, free_0, free_succ, ends, outs, nils, resolve, putBack, allRef, refs, wipeE, pIsN, pNotN, pEq, pNe, eqOk_ii, eqOk_ss, eqOk_bb, eqOk_ni, eqOk_in, frS_frz, frS_own, frS_nil, List.replicate, List.getElem?_cons_zero, List.getElem?_cons_succ, List.set_cons_zero, List.set_cons_succ, List.cons_append, List.nil_append, List.length_cons, List.length_nil, List.take_succ_cons, List.take_zero, List.map_cons, List.map_nil, true_and, and_true, D.int.injEq, D.str.injEq, D.lst.injEq, decide_eq_true_eq, ite_true, ite_false, if_true, if_false, reduceIte, Bool.false_eq_true, false_and, and_false, Bool.not_true, Bool.not_false, Option.some.injEq, exists_eq_left', exists_eq_left, exists_and_left, List.nodup_cons, List.nodup_nil, List.not_mem_nil, not_false_eq_true, List.mem_cons, or_false, false_or, forall_eq, forall_eq_or_imp, Slot.own.injEq, Slot.par.injEq, Slot.frz.injEq, reduceCtorEq, exists_eq', exists_eq, exists_false, decide_true, decide_false, or_self, false_implies, implies_true, forall_const, eq_self, rd_lkL1, rd_lkL2, rd_lkL3, rd_lkE1, rd_lkE2, rd_thE1, rd_thE2, rd_lkF1, rd_lkX1, rd_lkX2, rd_lkX3, rd_mvS1, rd_mvS2, rd_mvE1, rd_mvE2, rd_lsO1, rd_lsO2, rd_tpO1, rd_sol1, rd_sol2, rd_sol3, rd_sol4, rd_sol5, rd_sol6, rd_sol7, rd_flat1, rd_flat2, rd_flat3, rd_flat4, rd_flat5, rd_asD1, rd_asD2, rd_asQ1, rd_asQ2, rd_asB, rd_asI, rd_p1, rd_p2, rd_pI0, rd_pI2, rd_pU, rd_pAdd1, rd_pAdd2, rd_pAdd3, rd_pAdd4, rd_pMul1, rd_pMul2, rd_pMul3, rd_pLen1, rd_pLen2, rd_pLen3, rd_pInt1, rd_pAbs, rd_pList1, rd_pList2, rd_pList3, rd_pCut1, rd_pCut2, rd_pCut3, rd_non1, rd_non2, rd_non3, rd_non4, rd_non5, rd_non6, rd_isStr, rd_pIx1, rd_pIx2, rd_pIx3, rd_pJoin1, rd_upS1, rd_upS2, rd_out1, rd_out2, rd_out3, rd_out4, rd_asL1, rd_asL2, rd_putL1, rd_putL2, rd_lkT1, rd_lkT2, rd_lkT3, rd_thT, rd_mvT1, rd_mvT2, rd_asDT, rd_asQT, rd_upT1, rd_upT2, rd_outT1, rd_outT2, rd_ref1, rd_ref2, rd_ref3, rd_ref4, rd_flat6, rd_flats0, rd_flats1, rd_er1, rd_er2, rd_er3, rd_er4, rd_ers0, rd_ers1, rd_ersL, rd_stA, rd_isi1, rd_isi2, rd_isi3, rd_isi4, rd_isX, rd_draw, rd_take, rd_pLt, rd_pLe, rd_pGt, rd_pGe, rd_pTuple1, rd_pTuple2, rd_pStr1, rd_pStr2, rd_pInt, rd_pIntS, rd_pIntB, rd_pOrd, rd_pMax, rd_pSplit, rd_pPart, rd_stO, rd_pCutS, rd_solB, rd_pIn1, rd_pNotIn1, rd_pIn2, rd_pIn3, rd_pNotIn2, rd_pNotIn3, rd_pBls, rd_pJoin2, rd_at0, rd_at1, rd_at2, rd_at3, rd_atL, rd_ixL, rd_pRepr, rd_pGt2, rd_pLt2, rd_pListU1, rd_pListU2, rd_pListU3, rd_pListU4, rd_pSindex, rd_pStarts, rd_f1, rd_pSort, rd_pSortD, rd_oF, rd_qF, rd_fCB, rd_cat, rd_rep, rd_rev, rd_isB, rd_notB, rd_ixA1, rd_ixA2, rd_ixA3, rd_ixA4, rd_ixA5, rd_treS1, rd_treS2, rd_setT1, rd_setT2, rd_slT1, rd_slT2, rd_slT3, rd_pListF]
      · exact k1 rfl
      · exact k0 rfl
      · exact k0 rfl
    · simp only [sSeq, sSet, sIf, sRet, sRetN, sNext, sBreak, sCont, sDrop, sNever, sAsg, sPar, sAug, sApp, sExt, sSetI, sForI, sWhile, sMid, sTry, sRaise, qVar, qC, qOp, qUn, qB, qAnd, qOr, qNot, qAndV, qOrV, qNotV, qIf, qNil, qCons, qCB, qTup, qLst, qCut, qPart, qNo, qM1, qM0, qCall, qChain, qXf, eQ, eVar, eC, eOp, eUn, eIf, eNil, eCons, eCB, eTup, eLst, eO, eCut, eM1, eM0, ePop, eIxV, eAnd, eOr, eNot, eAndV, eOrV, eNotV, eChain, eCutE, eNo, ePart, oSu, iS, tB', tQ, tYes', oE, oPlus, oRep, oTre, oNew, oCompT, iR3, sPut, plVar, plIx, sIns, ePopAt, eRev, oLst, oMove, oIf, oCall, oSt, oComp, iL, iT, iR1, iR2, gN, gT, gsNil, gsCons, cNil, cVal, cRef, free_0, free_succ, ends, outs, nils, resolve, putBack, allRef, refs, wipeE, pIsN, pNotN, pEq, pNe, eqOk_ii, eqOk_ss, eqOk_bb, eqOk_ni, eqOk_in, frS_frz, frS_own, frS_nil, List.replicate, List.getElem?_cons_zero, List.getElem?_cons_succ, List.set_cons_zero, List.set_cons_succ, List.cons_append, List.nil_append, List.length_cons, List.length_nil, List.take_succ_cons, List.take_zero, List.map_cons, List.map_nil, true_and, and_true, D.int.injEq, D.str.injEq, D.lst.injEq, decide_eq_true_eq, ite_true, ite_false, if_true, if_false, reduceIte, Bool.false_eq_true, false_and, and_false, Bool.not_true, Bool.not_false, Option.some.injEq, exists_eq_left', exists_eq_left, exists_and_left, List.nodup_cons, List.nodup_nil, List.not_mem_nil, not_false_eq_true, List.mem_cons, or_false, false_or, forall_eq, forall_eq_or_imp, Slot.own.injEq, Slot.par.injEq, Slot.frz.injEq, reduceCtorEq, exists_eq', exists_eq, exists_false, decide_true, decide_false, or_self, false_implies, implies_true, forall_const, eq_self, rd_lkL1, rd_lkL2, rd_lkL3, rd_lkE1, rd_lkE2, rd_thE1, rd_thE2, rd_lkF1, rd_lkX1, rd_lkX2, rd_lkX3, rd_mvS1, rd_mvS2, rd_mvE1, rd_mvE2, rd_lsO1, rd_lsO2, rd_tpO1, rd_sol1, rd_sol2, rd_sol3, rd_sol4, rd_sol5, rd_sol6, rd_sol7, rd_flat1, rd_flat2, rd_flat3, rd_flat4, rd_flat5, rd_asD1, rd_asD2, rd_asQ1, rd_asQ2, rd_asB, rd_asI, rd_p1, rd_p2, rd_pI0, rd_pI2, rd_pU, rd_pAdd1, rd_pAdd2, rd_pAdd3, rd_pAdd4, rd_pMul1, rd_pMul2, rd_pMul3, rd_pLen1, rd_pLen2, rd_pLen3, rd_pInt1, rd_pAbs, rd_pList1, rd_pList2, rd_pList3, rd_pCut1, rd_pCut2, rd_pCut3, rd_non1, rd_non2, rd_non3, rd_non4, rd_non5, rd_non6, rd_isStr, rd_pIx1, rd_pIx2, rd_pIx3, rd_pJoin1, rd_upS1, rd_upS2, rd_out1, rd_out2, rd_out3, rd_out4, rd_asL1, rd_asL2, rd_putL1, rd_putL2, rd_lkT1, rd_lkT2, rd_lkT3, rd_thT, rd_mvT1, rd_mvT2, rd_asDT, rd_asQT, rd_upT1, rd_upT2, rd_outT1, rd_outT2, rd_ref1, rd_ref2, rd_ref3, rd_ref4, rd_flat6, rd_flats0, rd_flats1, rd_er1, rd_er2, rd_er3, rd_er4, rd_ers0, rd_ers1, rd_ersL, rd_stA, rd_isi1, rd_isi2, rd_isi3, rd_isi4, rd_isX, rd_draw, rd_take, rd_pLt, rd_pLe, rd_pGt, rd_pGe, rd_pTuple1, rd_pTuple2, rd_pStr1, rd_pStr2, rd_pInt, rd_pIntS, rd_pIntB, rd_pOrd, rd_pMax, rd_pSplit, rd_pPart, rd_stO, rd_pCutS, rd_solB, rd_pIn1, rd_pNotIn1, rd_pIn2, rd_pIn3, rd_pNotIn2, rd_pNotIn3, rd_pBls, rd_pJoin2, rd_at0, rd_at1, rd_at2, rd_at3, rd_atL, rd_ixL, rd_pRepr, rd_pGt2, rd_pLt2, rd_pListU1, rd_pListU2, rd_pListU3, rd_pListU4, rd_pSindex, rd_pStarts, rd_f1, rd_pSort, rd_pSortD, rd_oF, rd_qF, rd_fCB, rd_cat, rd_rep, rd_rev, rd_isB, rd_notB, rd_ixA1, rd_ixA2, rd_ixA3, rd_ixA4, rd_ixA5, rd_treS1, rd_treS2, rd_setT1, rd_setT2, rd_slT1, rd_slT2, rd_slT3, rd_pListF]
      rw [if_neg (by rw [List.length_map]; simp [cntK])]
      exact ⟨_, _, _, rfl, rfl, rfl, rfl⟩
  · simp only [f8, f9, f10, sSeq, sSet, sIf, sRet, sRetN, sNext, sBreak, sCont, sDrop, sNever, sAsg, sPar, sAug, sApp, sExt, sSetI, sForI, sWhile, sMid, sTry, sRaise, qVar, qC, qOp, qUn, qB, qAnd, qOr, qNot, qAndV, qOrV, qNotV, qIf, qNil, qCons, qCB, qTup, qLst, qCut, qPart, qNo, qM1, qM0, qCall, qChain, qXf, eQ, eVar, eC, eOp, eUn, eIf, eNil, eCons, eCB, eTup, eLst, eO, eCut, eM1, eM0, ePop, eIxV, eAnd, eOr, eNot, eAndV, eOrV, eNotV, eChain, eCutE, eNo, ePart, oSu, iS, tB', tQ, tYes', oE, oPlus, oRep, oTre, oNew, oCompT, iR3, sPut, plVar, plIx, sIns, ePopAt, eRev, oLst, oMove, oIf, oCall, oSt, oComp, iL, iT, iR1, iR2, gN, gT, gsNil, gsCons, cNil, cVal, cRef, free_0, free_succ, ends, outs, nils, resolve, putBack, allRef, refs, wipeE, pIsN, pNotN, pEq, pNe, eqOk_ii, eqOk_ss, eqOk_bb, eqOk_ni, eqOk_in, frS_frz, frS_own, frS_nil, List.replicate, List.getElem?_cons_zero, List.getElem?_cons_succ, List.set_cons_zero, List.set_cons_succ, List.cons_append, List.nil_append, List.length_cons, List.length_nil, List.take_succ_cons, List.take_zero, List.map_cons, List.map_nil, true_and, and_true, D.int.injEq, D.str.injEq, D.lst.injEq, decide_eq_true_eq, ite_true, ite_false, if_true, if_false, reduceIte, Bool.false_eq_true, false_and, and_false, Bool.not_true, Bool.not_false, Option.some.injEq, exists_eq_left', exists_eq_left, exists_and_left, List.nodup_cons, List.nodup_nil, List.not_mem_nil, not_false_eq_true, List.mem_cons, or_false, false_or, forall_eq, forall_eq_or_imp, Slot.own.injEq, Slot.par.injEq, Slot.frz.injEq, reduceCtorEq, exists_eq', exists_eq, exists_false, decide_true, decide_false, or_self, false_implies, implies_true, forall_const, eq_self, rd_lkL1, rd_lkL2, rd_lkL3, rd_lkE1, rd_lkE2, rd_thE1, rd_thE2, rd_lkF1, rd_lkX1, rd_lkX2, rd_lkX3, rd_mvS1, rd_mvS2, rd_mvE1, rd_mvE2, rd_lsO1, rd_lsO2, rd_tpO1, rd_sol1, rd_sol2, rd_sol3, rd_sol4, rd_sol5, rd_sol6, rd_sol7, rd_flat1, rd_flat2, rd_flat3, rd_flat4, rd_flat5, rd_asD1, rd_asD2, rd_asQ1, rd_asQ2, rd_asB, rd_asI, rd_p1, rd_p2, rd_pI0, rd_pI2, rd_pU, rd_pAdd1, rd_pAdd2, rd_pAdd3, rd_pAdd4, rd_pMul1, rd_pMul2, rd_pMul3, rd_pLen1, rd_pLen2, rd_pLen3, rd_pInt1, rd_pAbs, rd_pList1, rd_pList2, rd_pList3, rd_pCut1, rd_pCut2, rd_pCut3, rd_non1, rd_non2, rd_non3, rd_non4, rd_non5, rd_non6, rd_isStr, rd_pIx1, rd_pIx2, rd_pIx3, rd_pJoin1, rd_upS1, rd_upS2, rd_out1, rd_out2, rd_out3, rd_out4, rd_asL1, rd_asL2, rd_putL1, rd_putL2, rd_lkT1, rd_lkT2, rd_lkT3, rd_thT, rd_mvT1, rd_mvT2, rd_asDT, rd_asQT, rd_upT1, rd_upT2, rd_outT1, rd_outT2, rd_ref1, rd_ref2, rd_ref3, rd_ref4, rd_flat6, rd_flats0, rd_flats1, rd_er1, rd_er2, rd_er3, rd_er4, rd_ers0, rd_ers1, rd_ersL, rd_stA, rd_isi1, rd_isi2, rd_isi3, rd_isi4, rd_isX, rd_draw, rd_take, rd_pLt, rd_pLe, rd_pGt, rd_pGe, rd_pTuple1, rd_pTuple2, rd_pStr1, rd_pStr2, rd_pInt, rd_pIntS, rd_pIntB, rd_pOrd, rd_pMax, rd_pSplit, rd_pPart, rd_stO, rd_pCutS, rd_solB, rd_pIn1, rd_pNotIn1, rd_pIn2, rd_pIn3, rd_pNotIn2, rd_pNotIn3, rd_pBls, rd_pJoin2, rd_at0, rd_at1, rd_at2, rd_at3, rd_atL, rd_ixL, rd_pRepr, rd_pGt2, rd_pLt2, rd_pListU1, rd_pListU2, rd_pListU3, rd_pListU4, rd_pSindex, rd_pStarts, rd_f1, rd_pSort, rd_pSortD, rd_oF, rd_qF, rd_fCB, rd_cat, rd_rep, rd_rev, rd_isB, rd_notB, rd_ixA1, rd_ixA2, rd_ixA3, rd_ixA4, rd_ixA5, rd_treS1, rd_treS2, rd_setT1, rd_setT2, rd_slT1, rd_slT2, rd_slT3, rd_pListF]
    exact ⟨by omega, eqOk_ok okab okab, h⟩

end Lk15

set_option Elab.async false
set_option linter.all false
set_option maxRecDepth 100000
namespace Lk15
open PySem PySem.Spec L2 Pu
structure Bl (mg : Str → Option Value) : Prop where
  abs : mg "abs" = none
  bool : mg "bool" = none
  int : mg "int" = none
  isinstance : mg "isinstance" = none
  len : mg "len" = none
  list : mg "list" = none
  max : mg "max" = none
  range : mg "range" = none
section
variable {P : Program} {w : World} {K : PySem.W.Frag} {mg : Str → Option Value} {base : Heap}
theorem ok_law_state {f : Addr} {fd : FuncData} (F : FnP K "_law_state" "_law_state" s_law_state f fd) (B : Bl mg) :
    FnOk P w K mg base CX0 1 f fd ["_law_script"] (spOf (wd P w K) ps_law_state) := by
  exact F.pure0 sc_law_state (by decide) (psOf_len fun _ => rfl) (fun cdv A outer s H E hr => ⟨_, p_law_state , (pss_cons (ps_set (i := 1) sc_law_state.nd rfl (Or.inl rfl) pe_int)
    (pss_cons (ps_for PassesOwn.never rfl (pi_list (pv 0)) (pg_name (i := 2) sc_law_state.nd rfl (Or.inl rfl)) (pss_one (ps_set (i := 1) sc_law_state.nd rfl (Or.inl rfl) (pe_op op_mod (pe_callTy (Pu.CallR.or call_int1 call_int_str) (by rfl) (B.int) (by decide +kernel) (pa_cons (pe_op op_plus (pe_op op_times (pv 1) pe_int) (pv 2)) pa_nil)) pe_int))))
    (pss_one (ps_ret (pe_lst (pa_cons (pe_lc (own := [("_law_cell", 2)]) rfl sc_law_state.nd (pi_list (pv 0)) (blkOk_by (own := [("_law_cell", 2)]) (N := n_law_state) (sc := defScope s_law_state) (by decide +kernel)) (fun _ _ _ _ _ => (pg_name (i := 2) sc_law_state.nd rfl (Or.inl rfl))) (fun _ _ _ _ _ => pts_nil) (fun _ _ _ _ _ => (pe_callB call_abs (by rfl) (B.abs) (by decide +kernel) (pa_cons (pv 2) pa_nil)))) (pa_cons (pe_op op_plus (pv 1) pe_int) pa_nil))))))), (purs_seq (purs_set (puro_e pure_int))
    (purs_seq (purs_for (puri_list pure_var) purg_name (purs_set (puro_e (pure_op pr_I (pure_CB pc_int (pura_cons (pure_op pr_plus (pure_op pr_times pure_var pure_int) pure_var) pura_nil)) pure_int))))
    (purs_ret (puro_st (puro_lc (puri_list pure_var) purg_name (tgin_name (by decide)) purt_yes (pure_CB pc_abs (pura_cons pure_var pura_nil))) (purq_op pr_plus purq_var purq_int))))), fun as Q X' h => pp_law_state  as Q _ h⟩)
theorem ok_law_draw {f : Addr} {fd : FuncData} (F : FnP K "_law_draw" "_law_draw" s_law_draw f fd) (B : Bl mg) :
    FnOk P w K mg base CX0 1 f fd ["_law_state_here", "_law_many"] (spOf (wd P w K) psDraw) := by
  refine F.ok sc_law_draw (sp_len (by rintro as Q Xc ⟨_, rfl, _⟩; rfl)) (fun cdv A outer s H vs Q E hr h => ⟨t_draw K, PSs.nox ?_, draw_read rfl vs H Q E h⟩)
  exact (pss_cons (ps_if (pt_cmpR op_lt (pv 1) pe_int (nomark _)) (pss_one (ps_ret pe_int)) pss_nil)
    (pss_cons (ps_set (i := 2) sc_law_draw.nd rfl (Or.inl rfl) (pe_ix ix_seq (pv 0) pe_int (fun _ _ => rfl)))
    (pss_cons (ps_while PassesOwn.never (PW.pt (pw_and (pt_cmpR op_gt (pe_callB call_len (by rfl) B.len PySem.boot_len (pa_cons (pv 2) pa_nil)) pe_int (nomark _)) (pw_and1 (pt_cmpR (op_eqA hr.units) (pe_ix ix_seq (pv 2) pe_int (fun _ _ => rfl)) pe_int (nomark _))))) (pss_one (ps_expr (pe_bm PySem.F.plainAttrs_list PySem.F.slot_list_pop PySem.F.type_list_pop mt_popAt (pv 2) (pa_cons pe_int pa_nil)))))
    (pss_cons (ps_if (pt_cmpR op_gt (pe_callB call_len (by rfl) B.len PySem.boot_len (pa_cons (pv 2) pa_nil)) pe_int (nomark _)) (pss_cons (ps_set (i := 3) sc_law_draw.nd rfl (Or.inl rfl) (pe_ix ix_seq (pv 2) pe_int (fun _ _ => rfl))) (pss_cons (ps_asg (pe_op op_fdiv (pv 3) (pv 1)) (pg_sub (pv 2) pe_int set_list)) (pss_one (ps_ret (pe_op op_mod (pe_callTy call_int1 (by rfl) B.int (by decide +kernel) (pa_cons (pv 3) pa_nil)) (pv 1)))))) pss_nil)
    (pss_cons (ps_set (i := 4) sc_law_draw.nd rfl (Or.inl rfl) (pe_op op_mod (pe_callTy call_int1 (by rfl) B.int (by decide +kernel) (pa_cons (pe_op op_plus (pe_op op_times (pe_ix ix_seq (pv 0) pe_int (fun _ _ => rfl)) pe_int) pe_int) pa_nil)) pe_int))
    (pss_cons (ps_asg (pv 4) (pg_sub (pv 0) pe_int set_list))
    (pss_one (ps_ret (pe_op op_mod (pe_callTy call_int1 (by rfl) B.int (by decide +kernel) (pa_cons (pe_op op_fdiv (pv 4) pe_int) pa_nil)) (pv 1))))))))))
theorem ok_law_pick {f : Addr} {fd : FuncData} (F : FnP K "_law_pick" "_law_pick" s_law_pick f fd) (B : Bl mg)
    {f_law_draw : Addr} {fd_law_draw : FuncData} (c_law_draw : Cal P w K mg base CX0 1 "_law_draw" ["_law_state_here", "_law_many"] (spOf (wd P w K) ps_law_draw) f_law_draw fd_law_draw) :
    FnOk P w K mg base CX0 2 f fd ["_law_state_here", "_law_row"] (spOf (wd P w K) ps_law_pick) := by
  exact F.pure0 sc_law_pick (by decide) (psOf_len fun _ => rfl) (fun cdv A outer s H E hr => ⟨_, p_law_pick , (pss_one (ps_ret (pe_ix ix_seq (pv 1) (pe_call c_law_draw.ok (hr.mono (by decide)) (by rfl) c_law_draw.g c_law_draw.k c_law_draw.b .nil pass0 (pa_cons (pv 0) (pa_cons (pe_callB call_len (by rfl) (B.len) PySem.boot_len (pa_cons (pv 1) pa_nil)) pa_nil))) (fun _ _ => rfl)))), (purs_ret (puro_e (pure_op pr_ix pure_var (pure_o (puro_call0 (purca_ref (purca_val (pure_q (purq_CB pc_len (purqa_cons purq_var purqa_nil))) purca_nil))))))), fun as Q X' h => pp_law_pick  as Q _ h⟩)
theorem ok_law_lists {f : Addr} {fd : FuncData} (F : FnP K "_law_lists" "_law_lists" s_law_lists f fd) (B : Bl mg)
    {f_law_draw : Addr} {fd_law_draw : FuncData} (c_law_draw : Cal P w K mg base CX0 1 "_law_draw" ["_law_state_here", "_law_many"] (spOf (wd P w K) ps_law_draw) f_law_draw fd_law_draw)
    {f_law_pick : Addr} {fd_law_pick : FuncData} (c_law_pick : Cal P w K mg base CX0 2 "_law_pick" ["_law_state_here", "_law_row"] (spOf (wd P w K) ps_law_pick) f_law_pick fd_law_pick) :
    FnOk P w K mg base CX0 3 f fd ["_law_state_here"] (spOf (wd P w K) ps_law_lists) := by
  exact F.pure0 sc_law_lists (by decide) (psOf_len fun _ => rfl) (fun cdv A outer s H E hr => ⟨_, p_law_lists , (pss_cons (ps_set (i := 1) sc_law_lists.nd rfl (Or.inl rfl) (pe_ifExp (pt_cmpR (op_gtU (room64 hr)) (pe_call c_law_draw.ok (hr.mono (by decide)) (by rfl) c_law_draw.g c_law_draw.k c_law_draw.b .nil pass0 (pa_cons (pv 0) (pa_cons pe_int pa_nil))) pe_int (nomark _)) pe_int pe_int))
    (pss_cons (ps_setLc (i := 2) (own := [("_law_k", 6)]) rfl sc_law_lists.nd rfl rfl (sw_true rfl rfl rfl (by decide +kernel)) (pi_range1 (by rfl) (B.range) (pa_cons (pe_call c_law_draw.ok (hr.mono (by decide)) (by rfl) c_law_draw.g c_law_draw.k c_law_draw.b .nil pass0 (pa_cons (pv 0) (pa_cons (pv 1) pa_nil))) pa_nil)) (blkOk_by (own := [("_law_k", 6)]) (N := n_law_lists) (sc := defScope s_law_lists) (by decide +kernel)) (fun _ _ _ _ _ => (pg_name (i := 6) sc_law_lists.nd rfl (Or.inl rfl))) (fun _ _ _ _ _ => pts_nil) (fun _ _ _ _ _ => (pe_call c_law_pick.ok (hr.mono (by decide)) (by rfl) c_law_pick.g c_law_pick.k c_law_pick.b .nil pass0 (pa_cons (pv 0) (pa_cons (pe_lst (pa_cons pe_str (pa_cons pe_str (pa_cons pe_str (pa_cons pe_str (pa_cons pe_str pa_nil)))))) pa_nil)))))
    (pss_cons (ps_set (i := 3) sc_law_lists.nd rfl (Or.inl rfl) (pe_lst pa_nil))
    (pss_cons (ps_for PassesOwn.never rfl (pi_list (pv 2)) (pg_name (i := 4) sc_law_lists.nd rfl (Or.inl rfl)) (pss_cons (ps_set (i := 5) sc_law_lists.nd rfl (Or.inl rfl) (pe_call c_law_draw.ok (hr.mono (by decide)) (by rfl) c_law_draw.g c_law_draw.k c_law_draw.b .nil pass0 (pa_cons (pv 0) (pa_cons pe_int pa_nil))))
    (pss_cons (ps_if (pt_cmpR (op_gtU (room64 hr)) (pv 5) pe_int (nomark _)) (pss_one (ps_expr (pe_bm PySem.F.plainAttrs_list PySem.F.slot_list_append PySem.F.type_list_append mt_append (pv 3) (pa_cons (pv 4) pa_nil)))) pss_nil)
    (pss_one (ps_if (pt_cmpR (op_gtU (room64 hr)) (pv 5) pe_int (nomark _)) (pss_one (ps_expr (pe_bm PySem.F.plainAttrs_list PySem.F.slot_list_append PySem.F.type_list_append mt_append (pv 3) (pa_cons (pe_call c_law_pick.ok (hr.mono (by decide)) (by rfl) c_law_pick.g c_law_pick.k c_law_pick.b .nil pass0 (pa_cons (pv 0) (pa_cons (pe_lst (pa_cons pe_str (pa_cons pe_str (pa_cons pe_str pa_nil)))) pa_nil))) pa_nil)))) pss_nil)))))
    (pss_cons (ps_if (pt_cmpR (op_eqA (room64 hr)) (pe_call c_law_draw.ok (hr.mono (by decide)) (by rfl) c_law_draw.g c_law_draw.k c_law_draw.b .nil pass0 (pa_cons (pv 0) (pa_cons pe_int pa_nil))) pe_int (nomark _)) (pss_one (ps_setLc (i := 3) (own := [("_law_k", 6)]) rfl sc_law_lists.nd rfl rfl (sw_true rfl rfl rfl (by decide +kernel)) (pi_range1 (by rfl) (B.range) (pa_cons (pe_call c_law_draw.ok (hr.mono (by decide)) (by rfl) c_law_draw.g c_law_draw.k c_law_draw.b .nil pass0 (pa_cons (pv 0) (pa_cons (pv 1) pa_nil))) pa_nil)) (blkOk_by (own := [("_law_k", 6)]) (N := n_law_lists) (sc := defScope s_law_lists) (by decide +kernel)) (fun _ _ _ _ _ => (pg_name (i := 6) sc_law_lists.nd rfl (Or.inl rfl))) (fun _ _ _ _ _ => pts_nil) (fun _ _ _ _ _ => (pe_call c_law_pick.ok (hr.mono (by decide)) (by rfl) c_law_pick.g c_law_pick.k c_law_pick.b .nil pass0 (pa_cons (pv 0) (pa_cons (pe_lst (pa_cons pe_str (pa_cons pe_str (pa_cons pe_str (pa_cons pe_str pa_nil))))) pa_nil)))))) pss_nil)
    (pss_cons (ps_setLc (i := 2) (own := [("_law_line", 4)]) rfl sc_law_lists.nd rfl rfl (sw_true rfl rfl rfl (by decide +kernel)) (pi_list (pv 2)) (blkOk_by (own := [("_law_line", 4)]) (N := n_law_lists) (sc := defScope s_law_lists) (by decide +kernel)) (fun _ _ _ _ _ => (pg_name (i := 4) sc_law_lists.nd rfl (Or.inl rfl))) (fun _ _ _ _ _ => pts_nil) (fun _ _ _ _ _ => (pe_ifExp (pt_cmpR (op_gtU (room64 hr)) (pe_call c_law_draw.ok (hr.mono (by decide)) (by rfl) c_law_draw.g c_law_draw.k c_law_draw.b .nil pass0 (pa_cons (pv 0) (pa_cons pe_int pa_nil))) pe_int (nomark _)) (pv 4) pe_non)))
    (pss_one (ps_ret (pe_tup (pa_cons (pv 2) (pa_cons (pv 3) pa_nil))))))))))), (purs_mid (purs_set (puro_e (pure_if (purt_test (pure_op pr_gt (pure_o (puro_call0 (purca_ref (purca_val pure_int purca_nil)))) pure_int)) pure_int pure_int)))
    (purs_seq (purs_set (puro_e (pure_o (puro_lc (puri_r1 (pura_cons (pure_o (puro_call0 (purca_ref (purca_val pure_var purca_nil)))) pura_nil)) purg_name (tgin_name (by decide)) purt_yes (pure_o (puro_call0 (purca_ref (purca_val (pure_lst (pura_cons pure_str (pura_cons pure_str (pura_cons pure_str (pura_cons pure_str (pura_cons pure_str pura_nil)))))) purca_nil))))))))
    (purs_seq (purs_set (puro_lst pura_nil))
    (purs_seq (purs_for (puri_list pure_var) purg_name (purs_seq (purs_set (puro_e (pure_o (puro_call0 (purca_ref (purca_val pure_int purca_nil))))))
    (purs_seq (purs_if (purt_q (purqt_test (purq_op pr_gt purq_var purq_int))) (purs_app pure_var) purs_next)
    (purs_if (purt_q (purqt_test (purq_op pr_gt purq_var purq_int))) (purs_app (pure_o (puro_call0 (purca_ref (purca_val (pure_lst (pura_cons pure_str (pura_cons pure_str (pura_cons pure_str pura_nil)))) purca_nil))))) purs_next))))
    (purs_mid (purs_if (purt_test (pure_op pr_eq (pure_o (puro_call0 (purca_ref (purca_val pure_int purca_nil)))) pure_int)) (purs_set (puro_lc (puri_r1 (pura_cons (pure_o (puro_call0 (purca_ref (purca_val pure_var purca_nil)))) pura_nil)) purg_name (tgin_name (by decide)) purt_yes (pure_o (puro_call0 (purca_ref (purca_val (pure_lst (pura_cons pure_str (pura_cons pure_str (pura_cons pure_str (pura_cons pure_str pura_nil))))) purca_nil)))))) purs_next)
    (purs_seq (purs_set (puro_e (pure_o (puro_lc (puri_list pure_var) purg_name (tgin_name (by decide)) purt_yes (pure_if (purt_test (pure_op pr_gt (pure_o (puro_call0 (purca_ref (purca_val pure_int purca_nil)))) pure_int)) pure_var pure_non)))))
    (purs_ret (puro_e (pure_tup (pura_cons pure_var (pura_cons pure_var pura_nil))))))))))), fun as Q X' h => pp_law_lists  as Q _ h⟩)
theorem ok_kept_counts {f : Addr} {fd : FuncData} (F : FnP K "kept_counts" "kept_counts" s_kept_counts f fd) (B : Bl mg) :
    FnOk P w K mg base CX0 1 f fd ["one", "other"] (spOf (wd P w K) ps_kept_counts) := by
  exact F.pure0 sc_kept_counts (by decide) (psOf_len fun _ => rfl) (fun cdv A outer s H E hr => ⟨_, p_kept_counts , (pss_cons (ps_setLc (i := 2) (own := [("_", 5)]) rfl sc_kept_counts.nd rfl rfl (sw_true rfl rfl rfl (by decide +kernel)) (pi_range1 (by rfl) (B.range) (pa_cons (pe_op op_plus (pe_callB call_len (by rfl) (B.len) PySem.boot_len (pa_cons (pv 0) pa_nil)) pe_int) pa_nil)) (blkOk_by (own := [("_", 5)]) (N := n_kept_counts) (sc := defScope s_kept_counts) (by decide +kernel)) (fun _ _ _ _ _ => (pg_name (i := 5) sc_kept_counts.nd rfl (Or.inl rfl))) (fun _ _ _ _ _ => pts_nil) (fun _ _ _ _ _ => (pe_op op_times (pe_lst (pa_cons pe_int pa_nil)) (pe_op op_plus (pe_callB call_len (by rfl) (B.len) PySem.boot_len (pa_cons (pv 1) pa_nil)) pe_int))))
    (pss_cons (ps_for PassesOwn.never rfl (pi_range3 (by rfl) (B.range) (pa_cons (pe_op op_sub (pe_callB call_len (by rfl) (B.len) PySem.boot_len (pa_cons (pv 0) pa_nil)) pe_int) (pa_cons (pe_un un_neg pe_int) (pa_cons (pe_un un_neg pe_int) pa_nil)))) (pg_name (i := 3) sc_kept_counts.nd rfl (Or.inl rfl)) (pss_one (ps_for PassesOwn.never rfl (pi_range3 (by rfl) (B.range) (pa_cons (pe_op op_sub (pe_callB call_len (by rfl) (B.len) PySem.boot_len (pa_cons (pv 1) pa_nil)) pe_int) (pa_cons (pe_un un_neg pe_int) (pa_cons (pe_un un_neg pe_int) pa_nil)))) (pg_name (i := 4) sc_kept_counts.nd rfl (Or.inl rfl)) (pss_one (ps_if (pt_cmpR (op_eqA (room64 hr)) (pe_ix ix_seq (pv 0) (pv 3) (fun _ _ => rfl)) (pe_ix ix_seq (pv 1) (pv 4) (fun _ _ => rfl)) (nomark _)) (pss_one (ps_asg (pe_op op_plus (pe_ix ix_seq (pe_ix ix_seq (pv 2) (pe_op op_plus (pv 3) pe_int) (fun _ _ => rfl)) (pe_op op_plus (pv 4) pe_int) (fun _ _ => rfl)) pe_int) (pg_sub (pe_ix (ix_all (room65 hr)) (pv 2) (pv 3) (fun _ _ => rfl)) (pv 4) (set_all (room65 hr))))) (pss_one (ps_asg (pe_callB (call_max2 (by rfl)) (by rfl) (B.max) (by decide +kernel) (pa_cons (pe_ix ix_seq (pe_ix ix_seq (pv 2) (pe_op op_plus (pv 3) pe_int) (fun _ _ => rfl)) (pv 4) (fun _ _ => rfl)) (pa_cons (pe_ix ix_seq (pe_ix ix_seq (pv 2) (pv 3) (fun _ _ => rfl)) (pe_op op_plus (pv 4) pe_int) (fun _ _ => rfl)) pa_nil))) (pg_sub (pe_ix (ix_all (room65 hr)) (pv 2) (pv 3) (fun _ _ => rfl)) (pv 4) (set_all (room65 hr))))))))))
    (pss_one (ps_ret (pv 2))))), (purs_seq (purs_set (puro_lcT (puri_r1 (pura_cons (pure_op pr_plus (pure_q (purq_CB pc_len (purqa_cons purq_var purqa_nil))) pure_int) pura_nil)) purg_name (tgin_name (by decide)) purt_yes (puro_rep (pure_lst (pura_cons pure_int pura_nil)) (pure_op pr_plus (pure_q (purq_CB pc_len (purqa_cons purq_var purqa_nil))) pure_int))))
    (purs_seq (purs_for (puri_r3 (pura_cons (pure_op pr_I0 (pure_q (purq_CB pc_len (purqa_cons purq_var purqa_nil))) pure_int) (pura_cons (pure_un pr_U pure_int) (pura_cons (pure_un pr_U pure_int) pura_nil)))) purg_name (purs_for (puri_r3 (pura_cons (pure_op pr_I0 (pure_q (purq_CB pc_len (purqa_cons purq_var purqa_nil))) pure_int) (pura_cons (pure_un pr_U pure_int) (pura_cons (pure_un pr_U pure_int) pura_nil)))) purg_name (purs_if (purt_q (purqt_test (purq_op pr_eq (purq_op pr_ix purq_var purq_var) (purq_op pr_ix purq_var purq_var)))) (purs_put (pure_op pr_plus (pure_q (purq_op pr_ix (purq_op pr_ix purq_var (purq_op pr_plus purq_var purq_int)) (purq_op pr_plus purq_var purq_int))) pure_int) (purpl_ix purpl_var purq_var) purq_var) (purs_put (pure_CB pc_max (pura_cons (pure_q (purq_op pr_ix (purq_op pr_ix purq_var (purq_op pr_plus purq_var purq_int)) purq_var)) (pura_cons (pure_q (purq_op pr_ix (purq_op pr_ix purq_var purq_var) (purq_op pr_plus purq_var purq_int))) pura_nil))) (purpl_ix purpl_var purq_var) purq_var))))
    (purs_ret puro_move))), fun as Q X' h => pp_kept_counts  as Q _ h⟩)
theorem ok_steps_between {f : Addr} {fd : FuncData} (F : FnP K "steps_between" "steps_between" s_steps_between f fd) (B : Bl mg)
    {f_kept_counts : Addr} {fd_kept_counts : FuncData} (c_kept_counts : Cal P w K mg base CX0 1 "kept_counts" ["one", "other"] (spOf (wd P w K) ps_kept_counts) f_kept_counts fd_kept_counts) :
    FnOk P w K mg base CX0 2 f fd ["one", "other"] (spOf (wd P w K) ps_steps_between) := by
  exact F.pure0 sc_steps_between (by decide) (psOf_len fun _ => rfl) (fun cdv A outer s H E hr => ⟨_, p_steps_between , (pss_cons (ps_set (i := 2) sc_steps_between.nd rfl (Or.inl rfl) (pe_call c_kept_counts.ok (hr.mono (by decide)) (by rfl) c_kept_counts.g c_kept_counts.k c_kept_counts.b .nil pass0 (pa_cons (pv 0) (pa_cons (pv 1) pa_nil))))
    (pss_cons (ps_set (i := 3) sc_steps_between.nd rfl (Or.inl rfl) (pe_lst pa_nil))
    (pss_cons (ps_set (i := 4) sc_steps_between.nd rfl (Or.inl rfl) pe_int)
    (pss_cons (ps_set (i := 5) sc_steps_between.nd rfl (Or.inl rfl) pe_int)
    (pss_cons (ps_while PassesOwn.never (PW.pt (pw_or (pt_cmpR (op_ltU (room64 hr)) (pv 4) (pe_callB call_len (by rfl) (B.len) PySem.boot_len (pa_cons (pv 0) pa_nil)) (nomark _)) (pw_or1 (pt_cmpR (op_ltU (room64 hr)) (pv 5) (pe_callB call_len (by rfl) (B.len) PySem.boot_len (pa_cons (pv 1) pa_nil)) (nomark _))))) (pss_one (ps_if (PW.pt (pw_and (pt_cmpR (op_ltU (room64 hr)) (pv 4) (pe_callB call_len (by rfl) (B.len) PySem.boot_len (pa_cons (pv 0) pa_nil)) (nomark _)) (pw_and (pt_cmpR (op_ltU (room64 hr)) (pv 5) (pe_callB call_len (by rfl) (B.len) PySem.boot_len (pa_cons (pv 1) pa_nil)) (nomark _)) (pw_and1 (pt_cmpR (op_eqA (room64 hr)) (pe_ix ix_seq (pv 0) (pv 4) (fun _ _ => rfl)) (pe_ix ix_seq (pv 1) (pv 5) (fun _ _ => rfl)) (nomark _)))))) (pss_cons (ps_expr (pe_bm PySem.F.plainAttrs_list PySem.F.slot_list_append PySem.F.type_list_append mt_append (pv 3) (pa_cons (pe_tup (pa_cons pe_str (pa_cons (pv 4) (pa_cons (pv 5) pa_nil)))) pa_nil)))
    (pss_cons (ps_aug (i := 4) sc_steps_between.nd rfl (Or.inl rfl) pe_int ip_add)
    (pss_one (ps_aug (i := 5) sc_steps_between.nd rfl (Or.inl rfl) pe_int ip_add)))) (pss_one (ps_if (PW.pt (pw_and (pt_cmpR (op_ltU (room64 hr)) (pv 4) (pe_callB call_len (by rfl) (B.len) PySem.boot_len (pa_cons (pv 0) pa_nil)) (nomark _)) (pw_and1 (pt_cmpR (op_eqA (room64 hr)) (pe_ix ix_seq (pe_ix ix_seq (pv 2) (pe_op op_plus (pv 4) pe_int) (fun _ _ => rfl)) (pv 5) (fun _ _ => rfl)) (pe_ix ix_seq (pe_ix ix_seq (pv 2) (pv 4) (fun _ _ => rfl)) (pv 5) (fun _ _ => rfl)) (nomark _))))) (pss_cons (ps_expr (pe_bm PySem.F.plainAttrs_list PySem.F.slot_list_append PySem.F.type_list_append mt_append (pv 3) (pa_cons (pe_tup (pa_cons pe_str (pa_cons (pv 4) pa_nil))) pa_nil)))
    (pss_one (ps_aug (i := 4) sc_steps_between.nd rfl (Or.inl rfl) pe_int ip_add))) (pss_cons (ps_expr (pe_bm PySem.F.plainAttrs_list PySem.F.slot_list_append PySem.F.type_list_append mt_append (pv 3) (pa_cons (pe_tup (pa_cons pe_str (pa_cons (pv 5) pa_nil))) pa_nil)))
    (pss_one (ps_aug (i := 5) sc_steps_between.nd rfl (Or.inl rfl) pe_int ip_add))))))))
    (pss_one (ps_ret (pv 3)))))))), (purs_seq (purs_set (puro_e (pure_o (puro_call0 (purca_val pure_var (purca_val pure_var purca_nil))))))
    (purs_seq (purs_set (puro_lst pura_nil))
    (purs_seq (purs_set (puro_e pure_int))
    (purs_seq (purs_set (puro_e pure_int))
    (purs_seq (purs_while (purt_q (purqt_or (purqt_test (purq_op pr_lt purq_var (purq_CB pc_len (purqa_cons purq_var purqa_nil)))) (purqt_test (purq_op pr_lt purq_var (purq_CB pc_len (purqa_cons purq_var purqa_nil)))))) (purs_if (purt_q (purqt_and (purqt_test (purq_op pr_lt purq_var (purq_CB pc_len (purqa_cons purq_var purqa_nil)))) (purqt_and (purqt_test (purq_op pr_lt purq_var (purq_CB pc_len (purqa_cons purq_var purqa_nil)))) (purqt_test (purq_op pr_eq (purq_op pr_ix purq_var purq_var) (purq_op pr_ix purq_var purq_var)))))) (purs_seq (purs_app (pure_tup (pura_cons pure_str (pura_cons pure_var (pura_cons pure_var pura_nil)))))
    (purs_seq (purs_aug pure_int)
    (purs_aug pure_int))) (purs_if (purt_q (purqt_and (purqt_test (purq_op pr_lt purq_var (purq_CB pc_len (purqa_cons purq_var purqa_nil)))) (purqt_test (purq_op pr_eq (purq_op pr_ix (purq_op pr_ix purq_var (purq_op pr_plus purq_var purq_int)) purq_var) (purq_op pr_ix (purq_op pr_ix purq_var purq_var) purq_var))))) (purs_seq (purs_app (pure_tup (pura_cons pure_str (pura_cons pure_var pura_nil))))
    (purs_aug pure_int)) (purs_seq (purs_app (pure_tup (pura_cons pure_str (pura_cons pure_var pura_nil))))
    (purs_aug pure_int)))))
    (purs_ret puro_move)))))), fun as Q X' h => pp_steps_between  as Q _ h⟩)
theorem ok_law_most {f : Addr} {fd : FuncData} (F : FnP K "_law_most" "_law_most" s_law_most f fd) (B : Bl mg) :
    FnOk P w K mg base CX0 1 f fd ["_law_one", "_law_other"] (spOf (wd P w K) ps_law_most) := by
  exact F.pure0 sc_law_most (by decide) (psOf_len fun _ => rfl) (fun cdv A outer s H E hr => ⟨_, p_law_most , (pss_cons (ps_set (i := 2) sc_law_most.nd rfl (Or.inl rfl) pe_dnewO)
    (pss_cons (ps_for PassesOwn.never rfl (pi_range3 (by rfl) (B.range) (pa_cons (pe_callB call_len (by rfl) (B.len) PySem.boot_len (pa_cons (pv 0) pa_nil)) (pa_cons (pe_un un_neg pe_int) (pa_cons (pe_un un_neg pe_int) pa_nil)))) (pg_name (i := 3) sc_law_most.nd rfl (Or.inl rfl)) (pss_one (ps_for PassesOwn.never rfl (pi_range3 (by rfl) (B.range) (pa_cons (pe_callB call_len (by rfl) (B.len) PySem.boot_len (pa_cons (pv 1) pa_nil)) (pa_cons (pe_un un_neg pe_int) (pa_cons (pe_un un_neg pe_int) pa_nil)))) (pg_name (i := 4) sc_law_most.nd rfl (Or.inl rfl)) (pss_cons (ps_set (i := 5) sc_law_most.nd rfl (Or.inl rfl) pe_int)
    (pss_cons (ps_if (PW.pt (pw_and (pt_cmpR (op_ltU (room64 hr)) (pv 3) (pe_callB call_len (by rfl) (B.len) PySem.boot_len (pa_cons (pv 0) pa_nil)) (nomark _)) (pw_and1 (pt_cmpR (op_ltU (room64 hr)) (pv 4) (pe_callB call_len (by rfl) (B.len) PySem.boot_len (pa_cons (pv 1) pa_nil)) (nomark _))))) (pss_cons (ps_set (i := 5) sc_law_most.nd rfl (Or.inl rfl) (pe_callB (call_max2 (by rfl)) (by rfl) (B.max) (by decide +kernel) (pa_cons (pe_ix (ix_all (room65 hr)) (pv 2) (pe_tup (pa_cons (pe_op op_plus (pv 3) pe_int) (pa_cons (pv 4) pa_nil))) (fun _ _ => rfl)) (pa_cons (pe_ix (ix_all (room65 hr)) (pv 2) (pe_tup (pa_cons (pv 3) (pa_cons (pe_op op_plus (pv 4) pe_int) pa_nil))) (fun _ _ => rfl)) pa_nil))))
    (pss_one (ps_if (PW.pt (pw_and (pt_cmpR op_notN (pe_ix ix_seq (pv 0) (pv 3) (fun _ _ => rfl)) pe_non (nomark _)) (pw_and1 (pt_cmpR (op_eqA (room64 hr)) (pe_ix ix_seq (pv 0) (pv 3) (fun _ _ => rfl)) (pe_ix ix_seq (pv 1) (pv 4) (fun _ _ => rfl)) (nomark _))))) (pss_one (ps_set (i := 5) sc_law_most.nd rfl (Or.inl rfl) (pe_callB (call_max2 (by rfl)) (by rfl) (B.max) (by decide +kernel) (pa_cons (pv 5) (pa_cons (pe_op op_plus (pe_ix (ix_all (room65 hr)) (pv 2) (pe_tup (pa_cons (pe_op op_plus (pv 3) pe_int) (pa_cons (pe_op op_plus (pv 4) pe_int) pa_nil))) (fun _ _ => rfl)) pe_int) pa_nil))))) pss_nil))) pss_nil)
    (pss_one (ps_asg (pv 5) (pg_sub (pv 2) (pe_tup (pa_cons (pv 3) (pa_cons (pv 4) pa_nil))) (set_all (room65 hr))))))))))
    (pss_one (ps_ret (pv 2))))), (purs_seq (purs_set puro_new)
    (purs_seq (purs_for (puri_r3 (pura_cons (pure_q (purq_CB pc_len (purqa_cons purq_var purqa_nil))) (pura_cons (pure_un pr_U pure_int) (pura_cons (pure_un pr_U pure_int) pura_nil)))) purg_name (purs_for (puri_r3 (pura_cons (pure_q (purq_CB pc_len (purqa_cons purq_var purqa_nil))) (pura_cons (pure_un pr_U pure_int) (pura_cons (pure_un pr_U pure_int) pura_nil)))) purg_name (purs_seq (purs_set (puro_e pure_int))
    (purs_seq (purs_if (purt_q (purqt_and (purqt_test (purq_op pr_lt purq_var (purq_CB pc_len (purqa_cons purq_var purqa_nil)))) (purqt_test (purq_op pr_lt purq_var (purq_CB pc_len (purqa_cons purq_var purqa_nil)))))) (purs_seq (purs_set (puro_e (pure_CB pc_max (pura_cons (pure_q (purq_op pr_ixA purq_var (purq_tup (purqa_cons (purq_op pr_plus purq_var purq_int) (purqa_cons purq_var purqa_nil))))) (pura_cons (pure_q (purq_op pr_ixA purq_var (purq_tup (purqa_cons purq_var (purqa_cons (purq_op pr_plus purq_var purq_int) purqa_nil))))) pura_nil)))))
    (purs_if (purt_q (purqt_and (purqt_test (purq_op pr_notN (purq_op pr_ix purq_var purq_var) purq_non)) (purqt_test (purq_op pr_eq (purq_op pr_ix purq_var purq_var) (purq_op pr_ix purq_var purq_var))))) (purs_set (puro_e (pure_CB pc_max (pura_cons pure_var (pura_cons (pure_op pr_plus (pure_q (purq_op pr_ixA purq_var (purq_tup (purqa_cons (purq_op pr_plus purq_var purq_int) (purqa_cons (purq_op pr_plus purq_var purq_int) purqa_nil))))) pure_int) pura_nil))))) purs_next)) purs_next)
    (purs_put pure_var purpl_var (purq_tup (purqa_cons purq_var (purqa_cons purq_var purqa_nil))))))))
    (purs_ret puro_move))), fun as Q X' h => pp_law_most  as Q _ h⟩)
theorem ok_law_due {f : Addr} {fd : FuncData} (F : FnP K "_law_due" "_law_due" s_law_due f fd) (B : Bl mg)
    {f_law_most : Addr} {fd_law_most : FuncData} (c_law_most : Cal P w K mg base CX0 1 "_law_most" ["_law_one", "_law_other"] (spOf (wd P w K) ps_law_most) f_law_most fd_law_most) :
    FnOk P w K mg base CX0 2 f fd ["_law_one", "_law_other"] (spOf (wd P w K) ps_law_due) := by
  exact F.pure0 sc_law_due (by decide) (psOf_len fun _ => rfl) (fun cdv A outer s H E hr => ⟨_, p_law_due , (pss_cons (ps_set (i := 2) sc_law_due.nd rfl (Or.inl rfl) (pe_call c_law_most.ok (hr.mono (by decide)) (by rfl) c_law_most.g c_law_most.k c_law_most.b .nil pass0 (pa_cons (pv 0) (pa_cons (pv 1) pa_nil))))
    (pss_cons (ps_set (i := 3) sc_law_due.nd rfl (Or.inl rfl) (pe_lst pa_nil))
    (pss_cons (ps_asg (pe_tup (pa_cons pe_int (pa_cons pe_int pa_nil))) (pg_tup rfl (pgs_cons (pg_name (i := 4) sc_law_due.nd rfl (Or.inl rfl)) (pgs_cons (pg_name (i := 5) sc_law_due.nd rfl (Or.inl rfl)) pgs_nil))))
    (pss_cons (ps_for PassesOwn.never rfl (pi_range1 (by rfl) (B.range) (pa_cons (pe_op op_plus (pe_callB call_len (by rfl) (B.len) PySem.boot_len (pa_cons (pv 0) pa_nil)) (pe_callB call_len (by rfl) (B.len) PySem.boot_len (pa_cons (pv 1) pa_nil))) pa_nil)) (pg_name (i := 6) sc_law_due.nd rfl (Or.inl rfl)) (pss_one (ps_if (PW.pt (pw_and (pt_cmpR (op_ltU (room64 hr)) (pv 4) (pe_callB call_len (by rfl) (B.len) PySem.boot_len (pa_cons (pv 0) pa_nil)) (nomark _)) (pw_and (pt_cmpR (op_ltU (room64 hr)) (pv 5) (pe_callB call_len (by rfl) (B.len) PySem.boot_len (pa_cons (pv 1) pa_nil)) (nomark _)) (pw_and (pt_cmpR op_notN (pe_ix ix_seq (pv 0) (pv 4) (fun _ _ => rfl)) pe_non (nomark _)) (pw_and1 (pt_cmpR (op_eqA (room64 hr)) (pe_ix ix_seq (pv 0) (pv 4) (fun _ _ => rfl)) (pe_ix ix_seq (pv 1) (pv 5) (fun _ _ => rfl)) (nomark _))))))) (pss_cons (ps_expr (pe_bm PySem.F.plainAttrs_list PySem.F.slot_list_append PySem.F.type_list_append mt_append (pv 3) (pa_cons (pe_tup (pa_cons pe_str (pa_cons (pv 4) (pa_cons (pv 5) pa_nil)))) pa_nil)))
    (pss_one (ps_par (i := 4) (j := 5) rfl sc_law_due.nd rfl rfl (by decide) rfl rfl (pa_cons (pe_op op_plus (pv 4) pe_int) (pa_cons (pe_op op_plus (pv 5) pe_int) pa_nil)) (by rfl)))) (pss_one (ps_if (PW.pt (pw_and (pt_cmpR (op_ltU (room64 hr)) (pv 4) (pe_callB call_len (by rfl) (B.len) PySem.boot_len (pa_cons (pv 0) pa_nil)) (nomark _)) (pw_and1 (pt_cmpR (op_eqA (room64 hr)) (pe_ix (ix_all (room65 hr)) (pv 2) (pe_tup (pa_cons (pe_op op_plus (pv 4) pe_int) (pa_cons (pv 5) pa_nil))) (fun _ _ => rfl)) (pe_ix (ix_all (room65 hr)) (pv 2) (pe_tup (pa_cons (pv 4) (pa_cons (pv 5) pa_nil))) (fun _ _ => rfl)) (nomark _))))) (pss_cons (ps_expr (pe_bm PySem.F.plainAttrs_list PySem.F.slot_list_append PySem.F.type_list_append mt_append (pv 3) (pa_cons (pe_tup (pa_cons pe_str (pa_cons (pv 4) pa_nil))) pa_nil)))
    (pss_one (ps_set (i := 4) sc_law_due.nd rfl (Or.inl rfl) (pe_op op_plus (pv 4) pe_int)))) (pss_one (ps_if (pt_cmpR (op_ltU (room64 hr)) (pv 5) (pe_callB call_len (by rfl) (B.len) PySem.boot_len (pa_cons (pv 1) pa_nil)) (nomark _)) (pss_cons (ps_expr (pe_bm PySem.F.plainAttrs_list PySem.F.slot_list_append PySem.F.type_list_append mt_append (pv 3) (pa_cons (pe_tup (pa_cons pe_str (pa_cons (pv 5) pa_nil))) pa_nil)))
    (pss_one (ps_set (i := 5) sc_law_due.nd rfl (Or.inl rfl) (pe_op op_plus (pv 5) pe_int)))) pss_nil)))))))
    (pss_one (ps_ret (pe_tup (pa_cons (pv 3) (pa_cons (pe_ix (ix_all (room65 hr)) (pv 2) (pe_tup (pa_cons pe_int (pa_cons pe_int pa_nil))) (fun _ _ => rfl)) pa_nil))))))))), (purs_seq (purs_set (puro_e (pure_o (puro_call0 (purca_val pure_var (purca_val pure_var purca_nil))))))
    (purs_seq (purs_set (puro_lst pura_nil))
    (purs_seq (purs_asg (purg_tup (purgs_cons purg_name (purgs_cons purg_name purgs_nil))) (pure_tup (pura_cons pure_int (pura_cons pure_int pura_nil))))
    (purs_seq (purs_for (puri_r1 (pura_cons (pure_op pr_plus (pure_q (purq_CB pc_len (purqa_cons purq_var purqa_nil))) (pure_q (purq_CB pc_len (purqa_cons purq_var purqa_nil)))) pura_nil)) purg_name (purs_if (purt_q (purqt_and (purqt_test (purq_op pr_lt purq_var (purq_CB pc_len (purqa_cons purq_var purqa_nil)))) (purqt_and (purqt_test (purq_op pr_lt purq_var (purq_CB pc_len (purqa_cons purq_var purqa_nil)))) (purqt_and (purqt_test (purq_op pr_notN (purq_op pr_ix purq_var purq_var) purq_non)) (purqt_test (purq_op pr_eq (purq_op pr_ix purq_var purq_var) (purq_op pr_ix purq_var purq_var))))))) (purs_seq (purs_app (pure_tup (pura_cons pure_str (pura_cons pure_var (pura_cons pure_var pura_nil)))))
    (purs_par (pura_cons (pure_op pr_plus pure_var pure_int) (pura_cons (pure_op pr_plus pure_var pure_int) pura_nil)))) (purs_if (purt_q (purqt_and (purqt_test (purq_op pr_lt purq_var (purq_CB pc_len (purqa_cons purq_var purqa_nil)))) (purqt_test (purq_op pr_eq (purq_op pr_ixA purq_var (purq_tup (purqa_cons (purq_op pr_plus purq_var purq_int) (purqa_cons purq_var purqa_nil)))) (purq_op pr_ixA purq_var (purq_tup (purqa_cons purq_var (purqa_cons purq_var purqa_nil)))))))) (purs_seq (purs_app (pure_tup (pura_cons pure_str (pura_cons pure_var pura_nil))))
    (purs_set (puro_e (pure_op pr_plus pure_var pure_int)))) (purs_if (purt_q (purqt_test (purq_op pr_lt purq_var (purq_CB pc_len (purqa_cons purq_var purqa_nil))))) (purs_seq (purs_app (pure_tup (pura_cons pure_str (pura_cons pure_var pura_nil))))
    (purs_set (puro_e (pure_op pr_plus pure_var pure_int)))) purs_next))))
    (purs_ret (puro_e (pure_tup (pura_cons pure_var (pura_cons (pure_q (purq_op pr_ixA purq_var (purq_tup (purqa_cons purq_int (purqa_cons purq_int purqa_nil))))) pura_nil))))))))), fun as Q X' h => pp_law_due  as Q _ h⟩)
theorem ok_kept {f : Addr} {fd : FuncData} (F : FnP K "kept" "kept" s_kept f fd) (B : Bl mg) :
    FnOk P w K mg base CX0 1 f fd ["steps"] (spOf (wd P w K) ps_kept) := by
  exact F.pure0 sc_kept (by decide) (psOf_len fun _ => rfl) (fun cdv A outer s H E hr => ⟨_, p_kept , (pss_one (ps_ret (pe_callB call_len (by rfl) (B.len) PySem.boot_len (pa_cons (pe_lc (own := [("step", 1)]) rfl sc_kept.nd (pi_list (pv 0)) (blkOk_by (own := [("step", 1)]) (N := n_kept) (sc := defScope s_kept) (by decide +kernel)) (fun _ _ _ _ _ => (pg_name (i := 1) sc_kept.nd rfl (Or.inl rfl))) (fun _ _ _ _ _ => (pts_one (pt_cmpR (op_eqA (room64 hr)) (pe_ix ix_seq (pv 1) pe_int (fun _ _ => rfl)) pe_str (nomark _)))) (fun _ _ _ _ _ => (pv 1))) pa_nil)))), (purs_ret (puro_e (pure_CB pc_len (pura_cons (pure_o (puro_lc (puri_list pure_var) purg_name (tgin_name (by decide)) (purt_q (purqt_test (purq_op pr_eq (purq_op pr_ix purq_var purq_int) purq_str))) pure_var)) pura_nil)))), fun as Q X' h => pp_kept  as Q _ h⟩)
theorem ok_script_right {f : Addr} {fd : FuncData} (F : FnP K "script_right" "script_right" s_script_right f fd) (B : Bl mg) :
    FnOk P w K mg base CX0 1 f fd ["one", "other", "steps"] (spOf (wd P w K) ps_script_right) := by
  exact F.pure0 sc_script_right (by decide) (psOf_len fun _ => rfl) (fun cdv A outer s H E hr => ⟨_, p_script_right , (pss_cons (ps_set (i := 3) sc_script_right.nd rfl (Or.inl rfl) pe_int)
    (pss_cons (ps_set (i := 4) sc_script_right.nd rfl (Or.inl rfl) pe_int)
    (pss_cons (ps_for PassesOwn.never rfl (pi_list (pv 2)) (pg_name (i := 5) sc_script_right.nd rfl (Or.inl rfl)) (pss_one (ps_if (pt_cmpR (op_eqA (room64 hr)) (pe_ix ix_seq (pv 5) pe_int (fun _ _ => rfl)) pe_str (nomark _)) (pss_cons (ps_if (PW.pt (pw_or (pt_cmpR (op_neA (room64 hr)) (pv 5) (pe_tup (pa_cons pe_str (pa_cons (pv 3) (pa_cons (pv 4) pa_nil)))) (nomark _)) (pw_or (pt_cmpR (op_geU (room64 hr)) (pv 3) (pe_callB call_len (by rfl) (B.len) PySem.boot_len (pa_cons (pv 0) pa_nil)) (nomark _)) (pw_or (pt_cmpR (op_geU (room64 hr)) (pv 4) (pe_callB call_len (by rfl) (B.len) PySem.boot_len (pa_cons (pv 1) pa_nil)) (nomark _)) (pw_or (pt_cmpR op_isN (pe_ix ix_seq (pv 0) (pv 3) (fun _ _ => rfl)) pe_non (nomark _)) (pw_or1 (pt_cmpR (op_neA (room64 hr)) (pe_ix ix_seq (pv 0) (pv 3) (fun _ _ => rfl)) (pe_ix ix_seq (pv 1) (pv 4) (fun _ _ => rfl)) (nomark _)))))))) (pss_one (ps_ret pe_bl)) pss_nil)
    (pss_cons (ps_aug (i := 3) sc_script_right.nd rfl (Or.inl rfl) pe_int ip_add)
    (pss_one (ps_aug (i := 4) sc_script_right.nd rfl (Or.inl rfl) pe_int ip_add)))) (pss_one (ps_if (pt_cmpR (op_eqA (room64 hr)) (pe_ix ix_seq (pv 5) pe_int (fun _ _ => rfl)) pe_str (nomark _)) (pss_cons (ps_if (PW.pt (pw_or (pt_cmpR (op_neA (room64 hr)) (pv 5) (pe_tup (pa_cons pe_str (pa_cons (pv 3) pa_nil))) (nomark _)) (pw_or1 (pt_cmpR (op_geU (room64 hr)) (pv 3) (pe_callB call_len (by rfl) (B.len) PySem.boot_len (pa_cons (pv 0) pa_nil)) (nomark _))))) (pss_one (ps_ret pe_bl)) pss_nil)
    (pss_one (ps_aug (i := 3) sc_script_right.nd rfl (Or.inl rfl) pe_int ip_add))) (pss_cons (ps_if (PW.pt (pw_or (pt_cmpR (op_neA (room64 hr)) (pv 5) (pe_tup (pa_cons pe_str (pa_cons (pv 4) pa_nil))) (nomark _)) (pw_or1 (pt_cmpR (op_geU (room64 hr)) (pv 4) (pe_callB call_len (by rfl) (B.len) PySem.boot_len (pa_cons (pv 1) pa_nil)) (nomark _))))) (pss_one (ps_ret pe_bl)) pss_nil)
    (pss_one (ps_aug (i := 4) sc_script_right.nd rfl (Or.inl rfl) pe_int ip_add))))))))
    (pss_one (ps_ret (pe_and (pe_cmpR (op_eqA (room64 hr)) (pv 3) (pe_callB call_len (by rfl) (B.len) PySem.boot_len (pa_cons (pv 0) pa_nil)) (nomark _)) (pe_one (pe_cmpR (op_eqA (room64 hr)) (pv 4) (pe_callB call_len (by rfl) (B.len) PySem.boot_len (pa_cons (pv 1) pa_nil)) (nomark _))))))))), (purs_seq (purs_set (puro_e pure_int))
    (purs_seq (purs_set (puro_e pure_int))
    (purs_seq (purs_for (puri_list pure_var) purg_name (purs_if (purt_q (purqt_test (purq_op pr_eq (purq_op pr_ix purq_var purq_int) purq_str))) (purs_seq (purs_if (purt_q (purqt_or (purqt_test (purq_op pr_ne purq_var (purq_tup (purqa_cons purq_str (purqa_cons purq_var (purqa_cons purq_var purqa_nil)))))) (purqt_or (purqt_test (purq_op pr_ge purq_var (purq_CB pc_len (purqa_cons purq_var purqa_nil)))) (purqt_or (purqt_test (purq_op pr_ge purq_var (purq_CB pc_len (purqa_cons purq_var purqa_nil)))) (purqt_or (purqt_test (purq_op pr_isN (purq_op pr_ix purq_var purq_var) purq_non)) (purqt_test (purq_op pr_ne (purq_op pr_ix purq_var purq_var) (purq_op pr_ix purq_var purq_var)))))))) (purs_ret (puro_e pure_bl)) purs_next)
    (purs_seq (purs_aug pure_int)
    (purs_aug pure_int))) (purs_if (purt_q (purqt_test (purq_op pr_eq (purq_op pr_ix purq_var purq_int) purq_str))) (purs_seq (purs_if (purt_q (purqt_or (purqt_test (purq_op pr_ne purq_var (purq_tup (purqa_cons purq_str (purqa_cons purq_var purqa_nil))))) (purqt_test (purq_op pr_ge purq_var (purq_CB pc_len (purqa_cons purq_var purqa_nil)))))) (purs_ret (puro_e pure_bl)) purs_next)
    (purs_aug pure_int)) (purs_seq (purs_if (purt_q (purqt_or (purqt_test (purq_op pr_ne purq_var (purq_tup (purqa_cons purq_str (purqa_cons purq_var purqa_nil))))) (purqt_test (purq_op pr_ge purq_var (purq_CB pc_len (purqa_cons purq_var purqa_nil)))))) (purs_ret (puro_e pure_bl)) purs_next)
    (purs_aug pure_int)))))
    (purs_ret (puro_e (pure_q (purq_andV (purq_op pr_eq purq_var (purq_CB pc_len (purqa_cons purq_var purqa_nil))) (purq_op pr_eq purq_var (purq_CB pc_len (purqa_cons purq_var purqa_nil)))))))))), fun as Q X' h => pp_script_right  as Q _ h⟩)
theorem ok_law_other_steps {f : Addr} {fd : FuncData} (F : FnP K "_law_other_steps" "_law_other_steps" s_law_other_steps f fd) (B : Bl mg)
    {f_law_draw : Addr} {fd_law_draw : FuncData} (c_law_draw : Cal P w K mg base CX0 1 "_law_draw" ["_law_state_here", "_law_many"] (spOf (wd P w K) ps_law_draw) f_law_draw fd_law_draw)
    {f_law_pick : Addr} {fd_law_pick : FuncData} (c_law_pick : Cal P w K mg base CX0 2 "_law_pick" ["_law_state_here", "_law_row"] (spOf (wd P w K) ps_law_pick) f_law_pick fd_law_pick) :
    FnOk P w K mg base CX0 3 f fd ["_law_state_here", "_law_one", "_law_other", "_law_steps"] (spOf (wd P w K) ps_law_other_steps) := by
  exact F.pure0 sc_law_other_steps (by decide) (psOf_len fun _ => rfl) (fun cdv A outer s H E hr => ⟨_, p_law_other_steps , (pss_cons (ps_set (i := 4) sc_law_other_steps.nd rfl (Or.inl rfl) (pe_callTy (call_listB (by rfl)) (by rfl) (B.list) (by decide +kernel) (pa_cons (pv 3) pa_nil)))
    (pss_cons (ps_for PassesOwn.never rfl (pi_range1 (by rfl) (B.range) (pa_cons (pe_op op_plus pe_int (pe_call c_law_draw.ok (hr.mono (by decide)) (by rfl) c_law_draw.g c_law_draw.k c_law_draw.b .nil pass0 (pa_cons (pv 0) (pa_cons pe_int pa_nil)))) pa_nil)) (pg_name (i := 5) sc_law_other_steps.nd rfl (Or.inl rfl)) (pss_cons (ps_set (i := 6) sc_law_other_steps.nd rfl (Or.inl rfl) (pe_call c_law_draw.ok (hr.mono (by decide)) (by rfl) c_law_draw.g c_law_draw.k c_law_draw.b .nil pass0 (pa_cons (pv 0) (pa_cons pe_int pa_nil))))
    (pss_one (ps_if (PW.pt (pw_or (pt_cmpR (op_eqA (room64 hr)) (pe_callB call_len (by rfl) (B.len) PySem.boot_len (pa_cons (pv 4) pa_nil)) pe_int (nomark _)) (pw_or1 (pt_cmpR (op_eqA (room64 hr)) (pv 6) pe_int (nomark _))))) (pss_one (ps_expr (pe_bm PySem.F.plainAttrs_list PySem.F.slot_list_insert PySem.F.type_list_insert mt_insert (pv 4) (pa_cons (pe_call c_law_draw.ok (hr.mono (by decide)) (by rfl) c_law_draw.g c_law_draw.k c_law_draw.b .nil pass0 (pa_cons (pv 0) (pa_cons (pe_op op_plus (pe_callB call_len (by rfl) (B.len) PySem.boot_len (pa_cons (pv 4) pa_nil)) pe_int) pa_nil))) (pa_cons (pe_call c_law_pick.ok (hr.mono (by decide)) (by rfl) c_law_pick.g c_law_pick.k c_law_pick.b .nil pass0 (pa_cons (pv 0) (pa_cons (pe_lst (pa_cons (pe_tup (pa_cons pe_str (pa_cons pe_int pa_nil))) (pa_cons (pe_tup (pa_cons pe_str (pa_cons pe_int pa_nil))) (pa_cons (pe_tup (pa_cons pe_str (pa_cons pe_int (pa_cons pe_int pa_nil)))) pa_nil)))) pa_nil))) pa_nil))))) (pss_one (ps_if (pt_cmpR (op_eqA (room64 hr)) (pv 6) pe_int (nomark _)) (pss_one (ps_expr (pe_bm PySem.F.plainAttrs_list PySem.F.slot_list_pop PySem.F.type_list_pop mt_popAt (pv 4) (pa_cons (pe_call c_law_draw.ok (hr.mono (by decide)) (by rfl) c_law_draw.g c_law_draw.k c_law_draw.b .nil pass0 (pa_cons (pv 0) (pa_cons (pe_callB call_len (by rfl) (B.len) PySem.boot_len (pa_cons (pv 4) pa_nil)) pa_nil))) pa_nil)))) (pss_one (ps_if (pt_cmpR (op_eqA (room64 hr)) (pv 6) pe_int (nomark _)) (pss_cons (ps_set (i := 7) sc_law_other_steps.nd rfl (Or.inl rfl) (pe_call c_law_draw.ok (hr.mono (by decide)) (by rfl) c_law_draw.g c_law_draw.k c_law_draw.b .nil pass0 (pa_cons (pv 0) (pa_cons (pe_callB call_len (by rfl) (B.len) PySem.boot_len (pa_cons (pv 4) pa_nil)) pa_nil))))
    (pss_one (ps_if (pt_cmpR (op_eqA (room64 hr)) (pe_ix ix_seq (pe_ix ix_seq (pv 4) (pv 7) (fun _ _ => rfl)) pe_int (fun _ _ => rfl)) pe_str (nomark _)) (pss_one (ps_set (i := 4) sc_law_other_steps.nd rfl (Or.inl rfl) (pe_op op_plus (pe_op op_plus (pe_slice sl_cut (pv 4) po_none (po_some (pv 7))) (pe_lst (pa_cons (pe_tup (pa_cons pe_str (pa_cons (pe_ix ix_seq (pe_ix ix_seq (pv 4) (pv 7) (fun _ _ => rfl)) pe_int (fun _ _ => rfl)) pa_nil))) (pa_cons (pe_tup (pa_cons pe_str (pa_cons (pe_ix ix_seq (pe_ix ix_seq (pv 4) (pv 7) (fun _ _ => rfl)) pe_int (fun _ _ => rfl)) pa_nil))) pa_nil)))) (pe_slice sl_cut (pv 4) (po_some (pe_op op_plus (pv 7) pe_int)) po_none)))) pss_nil))) (pss_cons (ps_set (i := 7) sc_law_other_steps.nd rfl (Or.inl rfl) (pe_call c_law_draw.ok (hr.mono (by decide)) (by rfl) c_law_draw.g c_law_draw.k c_law_draw.b .nil pass0 (pa_cons (pv 0) (pa_cons (pe_callB call_len (by rfl) (B.len) PySem.boot_len (pa_cons (pv 4) pa_nil)) pa_nil))))
    (pss_one (ps_set (i := 4) sc_law_other_steps.nd rfl (Or.inl rfl) (pe_op op_plus (pe_op op_plus (pe_slice sl_cut (pv 4) po_none (po_some (pv 7))) (pe_revL (pe_slice sl_cut (pv 4) (po_some (pv 7)) (po_some (pe_op op_plus (pv 7) pe_int))))) (pe_slice sl_cut (pv 4) (po_some (pe_op op_plus (pv 7) pe_int)) po_none)))))))))))))
    (pss_one (ps_ret (pv 4))))), (purs_seq (purs_set (puro_f (purf_CB pcf_list (purqa_cons purq_var purqa_nil))))
    (purs_seq (purs_for (puri_r1 (pura_cons (pure_op pr_plus pure_int (pure_o (puro_call0 (purca_ref (purca_val pure_int purca_nil))))) pura_nil)) purg_name (purs_seq (purs_set (puro_e (pure_o (puro_call0 (purca_ref (purca_val pure_int purca_nil))))))
    (purs_if (purt_q (purqt_or (purqt_test (purq_op pr_eq (purq_CB pc_len (purqa_cons purq_var purqa_nil)) purq_int)) (purqt_test (purq_op pr_eq purq_var purq_int)))) (purs_ins (pura_cons (pure_o (puro_call0 (purca_ref (purca_val (pure_op pr_plus (pure_q (purq_CB pc_len (purqa_cons purq_var purqa_nil))) pure_int) purca_nil)))) (pura_cons (pure_o (puro_call0 (purca_ref (purca_val (pure_lst (pura_cons (pure_tup (pura_cons pure_str (pura_cons pure_int pura_nil))) (pura_cons (pure_tup (pura_cons pure_str (pura_cons pure_int pura_nil))) (pura_cons (pure_tup (pura_cons pure_str (pura_cons pure_int (pura_cons pure_int pura_nil)))) pura_nil)))) purca_nil)))) pura_nil))) (purs_if (purt_q (purqt_test (purq_op pr_eq purq_var purq_int))) (purs_drop (pure_popAt (pure_o (puro_call0 (purca_ref (purca_val (pure_q (purq_CB pc_len (purqa_cons purq_var purqa_nil))) purca_nil)))))) (purs_if (purt_q (purqt_test (purq_op pr_eq purq_var purq_int))) (purs_seq (purs_set (puro_e (pure_o (puro_call0 (purca_ref (purca_val (pure_q (purq_CB pc_len (purqa_cons purq_var purqa_nil))) purca_nil))))))
    (purs_if (purt_q (purqt_test (purq_op pr_eq (purq_op pr_ix (purq_op pr_ix purq_var purq_var) purq_int) purq_str))) (purs_set (puro_plus (pure_op pr_plus (pure_cut pure_var purqo_no (purqo_part purq_var)) (pure_lst (pura_cons (pure_tup (pura_cons pure_str (pura_cons (pure_op pr_ix (pure_ixv purq_var) pure_int) pura_nil))) (pura_cons (pure_tup (pura_cons pure_str (pura_cons (pure_op pr_ix (pure_ixv purq_var) pure_int) pura_nil))) pura_nil)))) (pure_cut pure_var (purqo_part (purq_op pr_plus purq_var purq_int)) purqo_no))) purs_next)) (purs_seq (purs_set (puro_e (pure_o (puro_call0 (purca_ref (purca_val (pure_q (purq_CB pc_len (purqa_cons purq_var purqa_nil))) purca_nil))))))
    (purs_set (puro_plus (pure_op pr_plus (pure_cut pure_var purqo_no (purqo_part purq_var)) (pure_rev (pure_cut pure_var (purqo_part purq_var) (purqo_part (purq_op pr_plus purq_var purq_int))))) (pure_cut pure_var (purqo_part (purq_op pr_plus purq_var purq_int)) purqo_no)))))))))
    (purs_ret puro_move))), fun as Q X' h => pp_law_other_steps  as Q _ h⟩)
theorem ok_law_leads {f : Addr} {fd : FuncData} (F : FnP K "_law_leads" "_law_leads" s_law_leads f fd) (B : Bl mg) :
    FnOk P w K mg base CX0 1 f fd ["_law_one", "_law_other", "_law_steps"] (spOf (wd P w K) ps_law_leads) := by
  exact F.pure0 sc_law_leads (by decide) (psOf_len fun _ => rfl) (fun cdv A outer s H E hr => ⟨_, p_law_leads , (pss_cons (ps_asg (pe_tup (pa_cons pe_int (pa_cons pe_int pa_nil))) (pg_tup rfl (pgs_cons (pg_name (i := 3) sc_law_leads.nd rfl (Or.inl rfl)) (pgs_cons (pg_name (i := 4) sc_law_leads.nd rfl (Or.inl rfl)) pgs_nil))))
    (pss_cons (ps_for PassesOwn.never rfl (pi_list (pv 2)) (pg_name (i := 5) sc_law_leads.nd rfl (Or.inl rfl)) (pss_cons (ps_if (PW.pt (pw_and (pt_cmpR (op_inU (room65 hr)) (pe_ix ix_seq (pv 5) pe_int (fun _ _ => rfl)) (pe_tup (pa_cons pe_str (pa_cons pe_str pa_nil))) rfl) (pw_and1 (PW.pt (pw_or (pt_cmpR (op_neA (room64 hr)) (pe_ix ix_seq (pv 5) pe_int (fun _ _ => rfl)) (pv 3) (nomark _)) (pw_or1 (pt_cmpR (op_geU (room64 hr)) (pv 3) (pe_callB call_len (by rfl) (B.len) PySem.boot_len (pa_cons (pv 0) pa_nil)) (nomark _)))))))) (pss_one (ps_ret pe_bl)) pss_nil)
    (pss_cons (ps_if (PW.pt (pw_and (pt_cmpR (op_inU (room65 hr)) (pe_ix ix_seq (pv 5) pe_int (fun _ _ => rfl)) (pe_tup (pa_cons pe_str (pa_cons pe_str pa_nil))) rfl) (pw_and1 (PW.pt (pw_or (pt_cmpR (op_neA (room64 hr)) (pe_ix ix_seq (pv 5) (pe_un un_neg pe_int) (fun _ _ => rfl)) (pv 4) (nomark _)) (pw_or1 (pt_cmpR (op_geU (room64 hr)) (pv 4) (pe_callB call_len (by rfl) (B.len) PySem.boot_len (pa_cons (pv 1) pa_nil)) (nomark _)))))))) (pss_one (ps_ret pe_bl)) pss_nil)
    (pss_cons (ps_if (PW.pt (pw_and (pt_cmpR (op_eqA (room64 hr)) (pe_ix ix_seq (pv 5) pe_int (fun _ _ => rfl)) pe_str (nomark _)) (pw_and1 (PW.pt (pw_or (pt_cmpR op_isN (pe_ix ix_seq (pv 0) (pv 3) (fun _ _ => rfl)) pe_non (nomark _)) (pw_or1 (pt_cmpR (op_neA (room64 hr)) (pe_ix ix_seq (pv 0) (pv 3) (fun _ _ => rfl)) (pe_ix ix_seq (pv 1) (pv 4) (fun _ _ => rfl)) (nomark _)))))))) (pss_one (ps_ret pe_bl)) pss_nil)
    (pss_cons (ps_set (i := 3) sc_law_leads.nd rfl (Or.inl rfl) (pe_op op_plus (pv 3) (pe_callTy (Pu.CallR.or call_int1 call_int_str) (by rfl) (B.int) (by decide +kernel) (pa_cons (pe_cmpR (op_neA (room64 hr)) (pe_ix ix_seq (pv 5) pe_int (fun _ _ => rfl)) pe_str (nomark _)) pa_nil))))
    (pss_one (ps_set (i := 4) sc_law_leads.nd rfl (Or.inl rfl) (pe_op op_plus (pv 4) (pe_callTy (Pu.CallR.or call_int1 call_int_str) (by rfl) (B.int) (by decide +kernel) (pa_cons (pe_cmpR (op_neA (room64 hr)) (pe_ix ix_seq (pv 5) pe_int (fun _ _ => rfl)) pe_str (nomark _)) pa_nil))))))))))
    (pss_one (ps_ret (pe_and (pe_cmpR (op_eqA (room64 hr)) (pv 3) (pe_callB call_len (by rfl) (B.len) PySem.boot_len (pa_cons (pv 0) pa_nil)) (nomark _)) (pe_one (pe_cmpR (op_eqA (room64 hr)) (pv 4) (pe_callB call_len (by rfl) (B.len) PySem.boot_len (pa_cons (pv 1) pa_nil)) (nomark _)))))))), (purs_seq (purs_asg (purg_tup (purgs_cons purg_name (purgs_cons purg_name purgs_nil))) (pure_tup (pura_cons pure_int (pura_cons pure_int pura_nil))))
    (purs_seq (purs_for (puri_list pure_var) purg_name (purs_seq (purs_if (purt_q (purqt_and (purqt_test (purq_op pr_in (purq_op pr_ix purq_var purq_int) (purq_tup (purqa_cons purq_str (purqa_cons purq_str purqa_nil))))) (purqt_or (purqt_test (purq_op pr_ne (purq_op pr_ix purq_var purq_int) purq_var)) (purqt_test (purq_op pr_ge purq_var (purq_CB pc_len (purqa_cons purq_var purqa_nil))))))) (purs_ret (puro_e pure_bl)) purs_next)
    (purs_seq (purs_if (purt_q (purqt_and (purqt_test (purq_op pr_in (purq_op pr_ix purq_var purq_int) (purq_tup (purqa_cons purq_str (purqa_cons purq_str purqa_nil))))) (purqt_or (purqt_test (purq_op pr_ne (purq_op pr_ix purq_var (purq_un pr_U purq_int)) purq_var)) (purqt_test (purq_op pr_ge purq_var (purq_CB pc_len (purqa_cons purq_var purqa_nil))))))) (purs_ret (puro_e pure_bl)) purs_next)
    (purs_seq (purs_if (purt_q (purqt_and (purqt_test (purq_op pr_eq (purq_op pr_ix purq_var purq_int) purq_str)) (purqt_or (purqt_test (purq_op pr_isN (purq_op pr_ix purq_var purq_var) purq_non)) (purqt_test (purq_op pr_ne (purq_op pr_ix purq_var purq_var) (purq_op pr_ix purq_var purq_var)))))) (purs_ret (puro_e pure_bl)) purs_next)
    (purs_seq (purs_set (puro_e (pure_op pr_plus pure_var (pure_CB pc_int (pura_cons (pure_q (purq_op pr_ne (purq_op pr_ix purq_var purq_int) purq_str)) pura_nil)))))
    (purs_set (puro_e (pure_op pr_plus pure_var (pure_CB pc_int (pura_cons (pure_q (purq_op pr_ne (purq_op pr_ix purq_var purq_int) purq_str)) pura_nil))))))))))
    (purs_ret (puro_e (pure_q (purq_andV (purq_op pr_eq purq_var (purq_CB pc_len (purqa_cons purq_var purqa_nil))) (purq_op pr_eq purq_var (purq_CB pc_len (purqa_cons purq_var purqa_nil))))))))), fun as Q X' h => pp_law_leads  as Q _ h⟩)
theorem ok_law {f : Addr} {fd : FuncData} (F : FnP K "law" "law" s_law f fd) (B : Bl mg)
    {f_law_state : Addr} {fd_law_state : FuncData} (c_law_state : Cal P w K mg base CX0 1 "_law_state" ["_law_script"] (spOf (wd P w K) ps_law_state) f_law_state fd_law_state)
    {f_law_lists : Addr} {fd_law_lists : FuncData} (c_law_lists : Cal P w K mg base CX0 3 "_law_lists" ["_law_state_here"] (spOf (wd P w K) ps_law_lists) f_law_lists fd_law_lists)
    {f_steps_between : Addr} {fd_steps_between : FuncData} (c_steps_between : Cal P w K mg base CX0 2 "steps_between" ["one", "other"] (spOf (wd P w K) ps_steps_between) f_steps_between fd_steps_between)
    {f_law_due : Addr} {fd_law_due : FuncData} (c_law_due : Cal P w K mg base CX0 2 "_law_due" ["_law_one", "_law_other"] (spOf (wd P w K) ps_law_due) f_law_due fd_law_due)
    {f_kept : Addr} {fd_kept : FuncData} (c_kept : Cal P w K mg base CX0 1 "kept" ["steps"] (spOf (wd P w K) ps_kept) f_kept fd_kept)
    {f_script_right : Addr} {fd_script_right : FuncData} (c_script_right : Cal P w K mg base CX0 1 "script_right" ["one", "other", "steps"] (spOf (wd P w K) ps_script_right) f_script_right fd_script_right)
    {f_law_other_steps : Addr} {fd_law_other_steps : FuncData} (c_law_other_steps : Cal P w K mg base CX0 3 "_law_other_steps" ["_law_state_here", "_law_one", "_law_other", "_law_steps"] (spOf (wd P w K) ps_law_other_steps) f_law_other_steps fd_law_other_steps)
    {f_law_leads : Addr} {fd_law_leads : FuncData} (c_law_leads : Cal P w K mg base CX0 1 "_law_leads" ["_law_one", "_law_other", "_law_steps"] (spOf (wd P w K) ps_law_leads) f_law_leads fd_law_leads) :
    FnOk P w K mg base CX0 4 f fd ["_law_script"] (spOf (wd P w K) psLaw) := by
  exact F.pure0 sc_law (by decide) (by rintro as Q Xc ⟨_, rfl, _⟩; rfl) (fun cdv A outer s H E hr => ⟨_, p_law , (pss_cons (ps_set (i := 1) sc_law.nd rfl (Or.inl rfl) (pe_call c_law_state.ok (hr.mono (by decide)) (by rfl) c_law_state.g c_law_state.k c_law_state.b .nil pass0 (pa_cons (pv 0) pa_nil)))
    (pss_cons (ps_asg (pe_call c_law_lists.ok (hr.mono (by decide)) (by rfl) c_law_lists.g c_law_lists.k c_law_lists.b .nil pass0 (pa_cons (pv 1) pa_nil)) (pg_tup rfl (pgs_cons (pg_name (i := 2) sc_law.nd rfl (Or.inl rfl)) (pgs_cons (pg_name (i := 3) sc_law.nd rfl (Or.inl rfl)) pgs_nil))))
    (pss_cons (ps_set (i := 4) sc_law.nd rfl (Or.inl rfl) (pe_lst (pa_cons (pe_callTy (call_listU (by rfl)) (by rfl) (B.list) (by decide +kernel) (pa_cons (pv 2) pa_nil)) (pa_cons (pe_callTy (call_listU (by rfl)) (by rfl) (B.list) (by decide +kernel) (pa_cons (pv 3) pa_nil)) pa_nil))))
    (pss_cons (ps_set (i := 5) sc_law.nd rfl (Or.inl rfl) (pe_call c_steps_between.ok (hr.mono (by decide)) (by rfl) c_steps_between.g c_steps_between.k c_steps_between.b .nil pass0 (pa_cons (pv 2) (pa_cons (pv 3) pa_nil))))
    (pss_cons (ps_asg (pe_call c_law_due.ok (hr.mono (by decide)) (by rfl) c_law_due.g c_law_due.k c_law_due.b .nil pass0 (pa_cons (pv 2) (pa_cons (pv 3) pa_nil))) (pg_tup rfl (pgs_cons (pg_name (i := 6) sc_law.nd rfl (Or.inl rfl)) (pgs_cons (pg_name (i := 7) sc_law.nd rfl (Or.inl rfl)) pgs_nil))))
    (pss_cons (ps_if (PW.pt (pw_or (pt_cmpR (op_neA (room64 hr)) (pv 5) (pv 6) (nomark _)) (pw_or (pt_cmpR (op_neA (room64 hr)) (pe_call c_kept.ok (hr.mono (by decide)) (by rfl) c_kept.g c_kept.k c_kept.b .nil pass0 (pa_cons (pv 5) pa_nil)) (pv 7) (nomark _)) (pw_or1 (pt_cmpR op_notBl (pe_call c_script_right.ok (hr.mono (by decide)) (by rfl) c_script_right.g c_script_right.k c_script_right.b .nil pass0 (pa_cons (pv 2) (pa_cons (pv 3) (pa_cons (pv 5) pa_nil)))) pe_bl (nomark _)))))) (pss_one (ps_ret pe_bl)) pss_nil)
    (pss_cons (ps_for PassesOwn.never rfl (pi_range1 (by rfl) (B.range) (pa_cons pe_int pa_nil)) (pg_name (i := 8) sc_law.nd rfl (Or.inl rfl)) (pss_cons (ps_set (i := 9) sc_law.nd rfl (Or.inl rfl) (pe_call c_law_other_steps.ok (hr.mono (by decide)) (by rfl) c_law_other_steps.g c_law_other_steps.k c_law_other_steps.b .nil pass0 (pa_cons (pv 1) (pa_cons (pv 2) (pa_cons (pv 3) (pa_cons (pv 6) pa_nil))))))
    (pss_cons (ps_set (i := 10) sc_law.nd rfl (Or.inl rfl) (pe_call c_script_right.ok (hr.mono (by decide)) (by rfl) c_script_right.g c_script_right.k c_script_right.b .nil pass0 (pa_cons (pv 2) (pa_cons (pv 3) (pa_cons (pv 9) pa_nil)))))
    (pss_cons (ps_if (PW.pt (pw_or (pt_not (pt_val (pe_callB call_isi (by rfl) (B.isinstance) (by decide +kernel) (pa_cons (pv 10) (pa_cons (pe_bltn (by rfl) (B.bool) (by decide +kernel) (rv_ty (n := "bool"))) pa_nil))))) (pw_or1 (pt_cmpR (op_neA (room64 hr)) (pv 10) (pe_call c_law_leads.ok (hr.mono (by decide)) (by rfl) c_law_leads.g c_law_leads.k c_law_leads.b .nil pass0 (pa_cons (pv 2) (pa_cons (pv 3) (pa_cons (pv 9) pa_nil)))) (nomark _))))) (pss_one (ps_ret pe_bl)) pss_nil)
    (pss_one (ps_if (pt_cmpR (op_neA (room64 hr)) (pe_call c_kept.ok (hr.mono (by decide)) (by rfl) c_kept.g c_kept.k c_kept.b .nil pass0 (pa_cons (pv 9) pa_nil)) (pe_callB call_len (by rfl) (B.len) PySem.boot_len (pa_cons (pe_lc (own := [("_law_step", 11)]) rfl sc_law.nd (pi_list (pv 9)) (blkOk_by (own := [("_law_step", 11)]) (N := n_law) (sc := defScope s_law) (by decide +kernel)) (fun _ _ _ _ _ => (pg_name (i := 11) sc_law.nd rfl (Or.inl rfl))) (fun _ _ _ _ _ => (pts_one (pt_cmpR (op_eqA (room64 hr)) (pe_ix ix_seq (pv 11) pe_int (fun _ _ => rfl)) pe_str (nomark _)))) (fun _ _ _ _ _ => (pv 11))) pa_nil)) (nomark _)) (pss_one (ps_ret pe_bl)) pss_nil))))))
    (pss_one (ps_ret (pe_cmpR (op_eqA (room64 hr)) (pe_lst (pa_cons (pv 2) (pa_cons (pv 3) pa_nil))) (pv 4) (nomark _))))))))))), (purs_seq (purs_set (puro_call0 (purca_val pure_var purca_nil)))
    (purs_seq (purs_asg (purg_tup (purgs_cons purg_name (purgs_cons purg_name purgs_nil))) (pure_o (puro_call0 (purca_ref purca_nil))))
    (purs_seq (purs_set (puro_e (pure_lst (pura_cons (pure_CB pc_listU (pura_cons pure_var pura_nil)) (pura_cons (pure_CB pc_listU (pura_cons pure_var pura_nil)) pura_nil)))))
    (purs_seq (purs_set (puro_e (pure_o (puro_call0 (purca_val pure_var (purca_val pure_var purca_nil))))))
    (purs_seq (purs_asg (purg_tup (purgs_cons purg_name (purgs_cons purg_name purgs_nil))) (pure_o (puro_call0 (purca_val pure_var (purca_val pure_var purca_nil)))))
    (purs_seq (purs_if (purt_q (purqt_or (purqt_test (purq_op pr_ne purq_var purq_var)) (purqt_or (purqt_test (purq_op pr_ne (purq_call (purqa_cons purq_var purqa_nil)) purq_var)) (purqt_test (purq_op pr_notB (purq_call (purqa_cons purq_var (purqa_cons purq_var (purqa_cons purq_var purqa_nil)))) purq_bl))))) (purs_ret (puro_e pure_bl)) purs_next)
    (purs_seq (purs_for (puri_r1 (pura_cons pure_int pura_nil)) purg_name (purs_seq (purs_set (puro_e (pure_o (puro_call0 (purca_ref (purca_val pure_var (purca_val pure_var (purca_val pure_var purca_nil))))))))
    (purs_seq (purs_set (puro_e (pure_o (puro_call0 (purca_val pure_var (purca_val pure_var (purca_val pure_var purca_nil)))))))
    (purs_seq (purs_if (purt_q (purqt_or (purqt_not (purqt_B (purq_CB pc_isi (purqa_cons purq_var (purqa_cons purq_ty purqa_nil))))) (purqt_test (purq_op pr_ne purq_var (purq_call (purqa_cons purq_var (purqa_cons purq_var (purqa_cons purq_var purqa_nil)))))))) (purs_ret (puro_e pure_bl)) purs_next)
    (purs_if (purt_test (pure_op pr_ne (pure_o (puro_call0 (purca_val pure_var purca_nil))) (pure_CB pc_len (pura_cons (pure_o (puro_lc (puri_list pure_var) purg_name (tgin_name (by decide)) (purt_q (purqt_test (purq_op pr_eq (purq_op pr_ix purq_var purq_int) purq_str))) pure_var)) pura_nil)))) (purs_ret (puro_e pure_bl)) purs_next)))))
    (purs_ret (puro_e (pure_q (purq_op pr_eq (purq_lst (purqa_cons purq_var (purqa_cons purq_var purqa_nil))) purq_var))))))))))), fun as Q X' h => pp_law  as Q _ h⟩)
end

end Lk15

set_option Elab.async false
set_option linter.all false
set_option maxRecDepth 100000
set_option maxHeartbeats 0
namespace Lk15
open PySem PySem.Spec PyProof.Rows L2 Pu
def d_law_state : He.DefD := ⟨("_law_state", none), "_law_state", "_law_state", defArgs s_law_state, defBody s_law_state, defScope s_law_state, [], []⟩
def d_law_draw : He.DefD := ⟨("_law_draw", none), "_law_draw", "_law_draw", defArgs s_law_draw, defBody s_law_draw, defScope s_law_draw, [], []⟩
def d_law_pick : He.DefD := ⟨("_law_pick", none), "_law_pick", "_law_pick", defArgs s_law_pick, defBody s_law_pick, defScope s_law_pick, [], []⟩
def d_law_lists : He.DefD := ⟨("_law_lists", none), "_law_lists", "_law_lists", defArgs s_law_lists, defBody s_law_lists, defScope s_law_lists, [], []⟩
def d_kept_counts : He.DefD := ⟨("kept_counts", none), "kept_counts", "kept_counts", defArgs s_kept_counts, defBody s_kept_counts, defScope s_kept_counts, [], []⟩
def d_steps_between : He.DefD := ⟨("steps_between", none), "steps_between", "steps_between", defArgs s_steps_between, defBody s_steps_between, defScope s_steps_between, [], []⟩
def d_law_most : He.DefD := ⟨("_law_most", none), "_law_most", "_law_most", defArgs s_law_most, defBody s_law_most, defScope s_law_most, [], []⟩
def d_law_due : He.DefD := ⟨("_law_due", none), "_law_due", "_law_due", defArgs s_law_due, defBody s_law_due, defScope s_law_due, [], []⟩
def d_kept : He.DefD := ⟨("kept", none), "kept", "kept", defArgs s_kept, defBody s_kept, defScope s_kept, [], []⟩
def d_script_right : He.DefD := ⟨("script_right", none), "script_right", "script_right", defArgs s_script_right, defBody s_script_right, defScope s_script_right, [], []⟩
def d_law_other_steps : He.DefD := ⟨("_law_other_steps", none), "_law_other_steps", "_law_other_steps", defArgs s_law_other_steps, defBody s_law_other_steps, defScope s_law_other_steps, [], []⟩
def d_law_leads : He.DefD := ⟨("_law_leads", none), "_law_leads", "_law_leads", defArgs s_law_leads, defBody s_law_leads, defScope s_law_leads, [], []⟩
def d_law : He.DefD := ⟨("law", none), "law", "law", defArgs s_law, defBody s_law, defScope s_law, [], []⟩
def fn : List He.DefD := [d_law_state, d_law_draw, d_law_pick, d_law_lists, d_kept_counts, d_steps_between, d_law_most, d_law_due, d_kept, d_script_right, d_law_other_steps, d_law_leads, d_law]
def fa : List He.Fa := [.free "abs", .free "bool", .free "int", .free "isinstance", .free "len", .free "list", .free "max", .free "range", .glo "_law_state", .glo "_law_draw", .glo "_law_pick", .glo "_law_lists", .glo "kept_counts", .glo "steps_between", .glo "_law_most", .glo "_law_due", .glo "kept", .glo "script_right", .glo "_law_other_steps", .glo "_law_leads", .glo "law"]
def exB (_ : PySem.W.Frag) : Bool := true
abbrev R : PySem.W.OpenRow := PySem.W.OpenLaw.row PySem.Challenge.rw_quiltward_k15_scripts
abbrev hk : PySem.W.Hook := hookE 4 fa fn exB
def ob (s : PySem.W.SharedT) : AlE := obsEG 4 fa fn exB (HandSHeadRun.getT s)
theorem ob_eq (s : PySem.W.SharedT) : ob s = hk.obs s.abs := obsEG_eq (HandSHeadRun.getT_eq s)
def loose : List PySem.Str := (["__name__", "kept_counts", "steps_between", "script_right", "kept", "_law_state", "_law_draw", "_law_pick", "_law_lists", "_law_most", "_law_due", "_law_leads", "_law_other_steps"] : List PySem.Str)
theorem run (w : World) : HandSHeadRun.RunEq R (PySem.W.view R.prog [14]) hk ob 4000 loose w := by
  intro os
  kernel_rfl
theorem facts {P : Program} {w : World} {K : PySem.W.Frag} {h : Heap} {mg : Str → Option Value} {f : Addr} (X : K.In h) (G : h.Ns mainGlobals mg) (hfa : mg ("law" : Str) = some (.ref f)) (c : He.SaysD fa fn K) (ex : exB K = true) :
    ∃ fd : FuncData, (∀ (s : Shared) (v : Value), BindsTo s fd ⟨[v], []⟩ [("_law_script", v)]) ∧ ∀ base : Heap, K.In base → base.Ns mainGlobals mg → FnOk P w K mg base CX0 4 f fd ["_law_script"] (spOf (wd P w K) psLaw) := by
  obtain ⟨fd_law_state, F_law_state⟩ := c.def_ 0 (d := d_law_state) rfl
  obtain ⟨fd_law_draw, F_law_draw⟩ := c.def_ 1 (d := d_law_draw) rfl
  obtain ⟨fd_law_pick, F_law_pick⟩ := c.def_ 2 (d := d_law_pick) rfl
  obtain ⟨fd_law_lists, F_law_lists⟩ := c.def_ 3 (d := d_law_lists) rfl
  obtain ⟨fd_kept_counts, F_kept_counts⟩ := c.def_ 4 (d := d_kept_counts) rfl
  obtain ⟨fd_steps_between, F_steps_between⟩ := c.def_ 5 (d := d_steps_between) rfl
  obtain ⟨fd_law_most, F_law_most⟩ := c.def_ 6 (d := d_law_most) rfl
  obtain ⟨fd_law_due, F_law_due⟩ := c.def_ 7 (d := d_law_due) rfl
  obtain ⟨fd_kept, F_kept⟩ := c.def_ 8 (d := d_kept) rfl
  obtain ⟨fd_script_right, F_script_right⟩ := c.def_ 9 (d := d_script_right) rfl
  obtain ⟨fd_law_other_steps, F_law_other_steps⟩ := c.def_ 10 (d := d_law_other_steps) rfl
  obtain ⟨fd_law_leads, F_law_leads⟩ := c.def_ 11 (d := d_law_leads) rfl
  obtain ⟨fd_law, F_law⟩ := c.def_ 12 (d := d_law) rfl
  have hl := hfa.symm.trans (He.glo_ok X G (c.fact 20 (f := .glo "law") rfl))
  cases hl
  have bl := FunD.bindsA (ps := ["_law_script"]) F_law fun _ _ _ _ _ _ us hl => match us, hl with | [_], _ => rfl
  refine ⟨fd_law, fun s v => bl s [v] rfl, fun base _ _ => ?_⟩
  have B : Bl mg := ⟨He.free_ok X G (c.fact 0 (f := .free "abs") rfl), He.free_ok X G (c.fact 1 (f := .free "bool") rfl), He.free_ok X G (c.fact 2 (f := .free "int") rfl), He.free_ok X G (c.fact 3 (f := .free "isinstance") rfl), He.free_ok X G (c.fact 4 (f := .free "len") rfl), He.free_ok X G (c.fact 5 (f := .free "list") rfl), He.free_ok X G (c.fact 6 (f := .free "max") rfl), He.free_ok X G (c.fact 7 (f := .free "range") rfl)⟩
  have c_law_state : Cal P w K mg base CX0 1 "_law_state" ["_law_script"] (spOf (wd P w K) ps_law_state) (He.ga K "_law_state") fd_law_state := ⟨ok_law_state F_law_state B , F_law_state.bindsN fun _ _ _ _ _ _ us hl => match us, hl with | [_], _ => rfl, He.glo_ok X G (c.fact 8 (f := .glo "_law_state") rfl), F_law_state.kp⟩
  have c_law_draw : Cal P w K mg base CX0 1 "_law_draw" ["_law_state_here", "_law_many"] (spOf (wd P w K) psDraw) (He.ga K "_law_draw") fd_law_draw := ⟨ok_law_draw F_law_draw B , F_law_draw.bindsN fun _ _ _ _ _ _ us hl => match us, hl with | [_, _], _ => rfl, He.glo_ok X G (c.fact 9 (f := .glo "_law_draw") rfl), F_law_draw.kp⟩
  have c_law_pick : Cal P w K mg base CX0 2 "_law_pick" ["_law_state_here", "_law_row"] (spOf (wd P w K) ps_law_pick) (He.ga K "_law_pick") fd_law_pick := ⟨ok_law_pick F_law_pick B c_law_draw, F_law_pick.bindsN fun _ _ _ _ _ _ us hl => match us, hl with | [_, _], _ => rfl, He.glo_ok X G (c.fact 10 (f := .glo "_law_pick") rfl), F_law_pick.kp⟩
  have c_law_lists : Cal P w K mg base CX0 3 "_law_lists" ["_law_state_here"] (spOf (wd P w K) ps_law_lists) (He.ga K "_law_lists") fd_law_lists := ⟨ok_law_lists F_law_lists B c_law_draw c_law_pick, F_law_lists.bindsN fun _ _ _ _ _ _ us hl => match us, hl with | [_], _ => rfl, He.glo_ok X G (c.fact 11 (f := .glo "_law_lists") rfl), F_law_lists.kp⟩
  have c_kept_counts : Cal P w K mg base CX0 1 "kept_counts" ["one", "other"] (spOf (wd P w K) ps_kept_counts) (He.ga K "kept_counts") fd_kept_counts := ⟨ok_kept_counts F_kept_counts B , F_kept_counts.bindsN fun _ _ _ _ _ _ us hl => match us, hl with | [_, _], _ => rfl, He.glo_ok X G (c.fact 12 (f := .glo "kept_counts") rfl), F_kept_counts.kp⟩
  have c_steps_between : Cal P w K mg base CX0 2 "steps_between" ["one", "other"] (spOf (wd P w K) ps_steps_between) (He.ga K "steps_between") fd_steps_between := ⟨ok_steps_between F_steps_between B c_kept_counts, F_steps_between.bindsN fun _ _ _ _ _ _ us hl => match us, hl with | [_, _], _ => rfl, He.glo_ok X G (c.fact 13 (f := .glo "steps_between") rfl), F_steps_between.kp⟩
  have c_law_most : Cal P w K mg base CX0 1 "_law_most" ["_law_one", "_law_other"] (spOf (wd P w K) ps_law_most) (He.ga K "_law_most") fd_law_most := ⟨ok_law_most F_law_most B , F_law_most.bindsN fun _ _ _ _ _ _ us hl => match us, hl with | [_, _], _ => rfl, He.glo_ok X G (c.fact 14 (f := .glo "_law_most") rfl), F_law_most.kp⟩
  have c_law_due : Cal P w K mg base CX0 2 "_law_due" ["_law_one", "_law_other"] (spOf (wd P w K) ps_law_due) (He.ga K "_law_due") fd_law_due := ⟨ok_law_due F_law_due B c_law_most, F_law_due.bindsN fun _ _ _ _ _ _ us hl => match us, hl with | [_, _], _ => rfl, He.glo_ok X G (c.fact 15 (f := .glo "_law_due") rfl), F_law_due.kp⟩
  have c_kept : Cal P w K mg base CX0 1 "kept" ["steps"] (spOf (wd P w K) ps_kept) (He.ga K "kept") fd_kept := ⟨ok_kept F_kept B , F_kept.bindsN fun _ _ _ _ _ _ us hl => match us, hl with | [_], _ => rfl, He.glo_ok X G (c.fact 16 (f := .glo "kept") rfl), F_kept.kp⟩
  have c_script_right : Cal P w K mg base CX0 1 "script_right" ["one", "other", "steps"] (spOf (wd P w K) ps_script_right) (He.ga K "script_right") fd_script_right := ⟨ok_script_right F_script_right B , F_script_right.bindsN fun _ _ _ _ _ _ us hl => match us, hl with | [_, _, _], _ => rfl, He.glo_ok X G (c.fact 17 (f := .glo "script_right") rfl), F_script_right.kp⟩
  have c_law_other_steps : Cal P w K mg base CX0 3 "_law_other_steps" ["_law_state_here", "_law_one", "_law_other", "_law_steps"] (spOf (wd P w K) ps_law_other_steps) (He.ga K "_law_other_steps") fd_law_other_steps := ⟨ok_law_other_steps F_law_other_steps B c_law_draw c_law_pick, F_law_other_steps.bindsN fun _ _ _ _ _ _ us hl => match us, hl with | [_, _, _, _], _ => rfl, He.glo_ok X G (c.fact 18 (f := .glo "_law_other_steps") rfl), F_law_other_steps.kp⟩
  have c_law_leads : Cal P w K mg base CX0 1 "_law_leads" ["_law_one", "_law_other", "_law_steps"] (spOf (wd P w K) ps_law_leads) (He.ga K "_law_leads") fd_law_leads := ⟨ok_law_leads F_law_leads B , F_law_leads.bindsN fun _ _ _ _ _ _ us hl => match us, hl with | [_, _, _], _ => rfl, He.glo_ok X G (c.fact 19 (f := .glo "_law_leads") rfl), F_law_leads.kp⟩
  exact ok_law F_law B c_law_state c_law_lists c_steps_between c_law_due c_kept c_script_right c_law_other_steps c_law_leads
end Lk15
open PySem PySem.W PySem.Calls PyProof.Rows
theorem PySem.Challenge.cw_quiltward_k15_scripts_holds : PySem.Challenge.rw_quiltward_k15_scripts.Holds := by
  w_on; o_law
  refine HandSHeadRun.head_any (r := OpenLaw.row PySem.Challenge.rw_quiltward_k15_scripts) (q := view (OpenLaw.row PySem.Challenge.rw_quiltward_k15_scripts).prog [14]) (H := Lk15.hk) (ob := Lk15.ob) (M := 4000) (loose := Lk15.loose) (d := HandSHeadRun.topDef (OpenLaw.row PySem.Challenge.rw_quiltward_k15_scripts).prog 14) (kwd := []) Lk15.ob_eq
    (by kernel_rfl) (fun s => by kernel_rfl) Lk15.run (by kernel_rfl) (by kernel_rfl) (by kernel_rfl) (by rfl) (by first | assumption | decide +kernel) (by decide +kernel) ⟨rfl, rfl, rfl, rfl, rfl, by decide +kernel⟩ ?hw ?hc
  case hw => w_witness2
  case hc =>
    refine L2.walk_ofE (l := PySem.Challenge.rw_quiltward_k15_scripts) (n := 63) (k := 4) (x := "_law_script") (CX := L2.CX0) rfl (by decide) (by kernel_rfl) ⟨rfl, by decide, by decide⟩ ?F (fun _ _ _ _ z => z)
    intro w mg fa h Y G hmg0
    obtain ⟨K, KX, c, ex⟩ := Y
    have hmg : mg ("law" : PySem.Str) = some (.ref fa) := by
      have e : (HandSHeadRun.topDef (OpenLaw.row PySem.Challenge.rw_quiltward_k15_scripts).prog 14).name = ("law" : PySem.Str) := by kernel_rfl
      rw [← e]
      exact hmg0
    obtain ⟨fd, hb, hF⟩ := Lk15.facts (P := (PySem.Challenge.rw_quiltward_k15_scripts).prog) (w := w) KX G hmg c ex
    exact ⟨K, fd, Pu.spOf (Pu.wd (PySem.Challenge.rw_quiltward_k15_scripts).prog w K) Pu.psLaw, KX, hb, fun H a ns hl _ hS => Pu.law_sp hl hS, hF⟩


