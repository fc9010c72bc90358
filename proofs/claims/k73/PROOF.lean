import PyProof.Rows.All
import Wide.All
import OpenK.AllK
import Wide.FinOn
import HandS.ForMost
import HandS.TupAny
import HandS.Wide
import HandS.Deep
import HandS.Conv
import HandS.IsInst
import KE.KDictPairs
import HandS.Rev
import HandS.Iter
import HandS.Defaults
import HandS.Words
import HandS.Ends
import KE.GoesZip
import KE.GoesMore
import KE.GoesEnum
import HandS.More
import HandS.WordsDict
import HandS.Text
import PyProof.ReprRoads
import HandS.Zip
import PySem.Challenge.RW_kindalone_k73_worths_mapped
import PyProof.StrLawsRepr
import PyProof.FitsInt
set_option Elab.async false
set_option linter.all false
set_option maxRecDepth 100000
/-! TL0: a layer of pure values (T) over the hand layer: relations, judgements, going over and back. -/
namespace TL
open PySem PySem.Spec PyProof.Rows L2

/-- a value as the law's reader sees it: tuples are trees, everything mutable is an address -/
inductive T where
  | non | bl (b : Bool) | int (i : Int) | str (x : Str) | tup (xs : List T) | fl (xs : List T) | adr (a : Addr)
instance : Inhabited T := ⟨.non⟩

/-- the program, the world, the written part -/
structure Zk where
  P : Program
  w : World
  K : PySem.W.Frag
abbrev zx (X : Cx) : Zk := ⟨X.prog, X.w, X.K⟩
/-- what stands at an address -/
inductive MO where
  | lst (xs : List T)
  | ro (xs : List T)
  | dk (kvs : List (Key × T))
  | dx (kvs : List (List Key × T))
abbrev Sto := Addr → Option MO
def Sto.set (S : Sto) (a : Addr) (o : MO) : Sto := fun b => if b = a then some o else S b
/-- one object is written -/
structure Upd (S : Sto) (a : Addr) (o : MO) (S' : Sto) : Prop where
  at_ : S' a = some o
  off : ∀ b, b ≠ a → S' b = S b
theorem set_same {S : Sto} {a : Addr} {o : MO} : (S.set a o) a = some o := by unfold Sto.set; rw [if_pos rfl]
theorem set_ne {S : Sto} {a b : Addr} {o : MO} (h : b ≠ a) : (S.set a o) b = S b := by unfold Sto.set; rw [if_neg h]
theorem Upd.of {S : Sto} {a : Addr} {o : MO} : Upd S a o (S.set a o) := ⟨set_same, fun b h => set_ne h⟩
/-- a new object -/
def NewO (S : Sto) (o : MO) (Q : T → Sto → Prop) : Prop := ∀ (p : Addr) (S' : Sto), S p = none → Upd S p o S' → Q (.adr p) S'
theorem NewO.at {S : Sto} {o : MO} {Q : T → Sto → Prop} (q : NewO S o Q) {p : Addr} (h : S p = none) : Q (.adr p) (S.set p o) := q p _ h .of

/-- a list that nobody may write -/
def SqF (K : PySem.W.Frag) (H : Hp) (a : Addr) (xs : List V) : Prop := (∃ o, H a = some (.frz o (.lst xs))) ∨
  ∃ (o : Obj) (its : Array Value) (n : Nat), K.lookup a = some o ∧ o.cls = .type "list" ∧ o.dict = none ∧ o.data = .seq its n ∧ its.size ≤ sizeLine ∧ Vals xs its.toList
theorem SqF.sqL {K : PySem.W.Frag} {H : Hp} {a : Addr} {xs : List V} (h : SqF K H a xs) : SqL K H a xs := h.imp (fun h => .inr h) id
/-- a tuple that carries no dict -/
def SqP (K : PySem.W.Frag) (H : Hp) (a : Addr) (xs : List V) : Prop := (∃ o, H a = some (.frz o (.tup xs)) ∧ o.dict = none) ∨
  ∃ (o : Obj) (its : Array Value) (n : Nat), K.lookup a = some o ∧ o.cls = .type "tuple" ∧ o.dict = none ∧ o.data = .seq its n ∧ its.size ≤ sizeLine ∧ Vals xs its.toList
theorem SqP.sqT {K : PySem.W.Frag} {H : Hp} {a : Addr} {xs : List V} (h : SqP K H a xs) : SqT K H a xs := h.imp (fun ⟨o, h, _⟩ => .inr ⟨o, h⟩) fun ⟨o, its, n, h1, h2, _, h4, h5, h6⟩ => ⟨o, its, n, h1, h2, h4, h5, h6⟩
mutual
def RT (K : Zk) (H : Hp) : T → V → Prop
  | .non, v => v = .non
  | .bl b, v => v = .bl b
  | .int i, v => v = .int i
  | .str x, v => v = .str x
  | .tup ts, v => ∃ a vs, v = .ref a ∧ SqP K.K H a vs ∧ RTs K H ts vs
  | .fl ts, v => ∃ a vs, v = .ref a ∧ SqF K.K H a vs ∧ RTs K H ts vs
  | .adr a, v => v = .ref a
def RTs (K : Zk) (H : Hp) : List T → List V → Prop
  | [], vs => vs = []
  | t :: ts, vs => ∃ v r, vs = v :: r ∧ RT K H t v ∧ RTs K H ts r
end
section
variable {K : Zk} {H : Hp}
theorem rt_non {v : V} : RT K H .non v = (v = .non) := by unfold RT; rfl
theorem rt_bl {b : Bool} {v : V} : RT K H (.bl b) v = (v = .bl b) := by unfold RT; rfl
theorem rt_int {i : Int} {v : V} : RT K H (.int i) v = (v = .int i) := by unfold RT; rfl
theorem rt_str {x : Str} {v : V} : RT K H (.str x) v = (v = .str x) := by unfold RT; rfl
theorem rt_adr {a : Addr} {v : V} : RT K H (.adr a) v = (v = .ref a) := by unfold RT; rfl
theorem rt_tup {ts : List T} {v : V} : RT K H (.tup ts) v = (∃ a vs, v = .ref a ∧ SqP K.K H a vs ∧ RTs K H ts vs) := by
  conv => lhs; unfold RT
theorem rt_fl {ts : List T} {v : V} : RT K H (.fl ts) v = (∃ a vs, v = .ref a ∧ SqF K.K H a vs ∧ RTs K H ts vs) := by
  conv => lhs; unfold RT
theorem rts_nil {vs : List V} : RTs K H [] vs = (vs = []) := by unfold RTs; rfl
theorem rts_cons {t : T} {ts : List T} {vs : List V} : RTs K H (t :: ts) vs = (∃ v r, vs = v :: r ∧ RT K H t v ∧ RTs K H ts r) := by
  conv => lhs; unfold RTs
theorem RTs.nil : RTs K H [] [] := by rw [rts_nil]
theorem RTs.cons {t : T} {ts : List T} {v : V} {vs : List V} (h : RT K H t v) (r : RTs K H ts vs) : RTs K H (t :: ts) (v :: vs) := by
  rw [rts_cons]; exact ⟨v, vs, rfl, h, r⟩
theorem RTs.uncons {t : T} {ts : List T} {v : V} {vs : List V} (h : RTs K H (t :: ts) (v :: vs)) : RT K H t v ∧ RTs K H ts vs := by
  rw [rts_cons] at h
  obtain ⟨v', r, e, h1, h2⟩ := h
  injection e with e1 e2
  subst e1; subst e2
  exact ⟨h1, h2⟩
theorem RTs.length : ∀ {ts : List T} {vs : List V}, RTs K H ts vs → ts.length = vs.length
  | [], vs, h => by rw [rts_nil] at h; subst h; rfl
  | t :: ts, vs, h => by
    rw [rts_cons] at h
    obtain ⟨v, r, rfl, _, h2⟩ := h
    simp [RTs.length h2]
theorem RTs.get : ∀ {ts : List T} {vs : List V} {i : Nat} {t : T}, RTs K H ts vs → ts[i]? = some t → ∃ v, vs[i]? = some v ∧ RT K H t v
  | [], _, _, _, _, e => by simp at e
  | t :: ts, vs, i, x, h, e => by
    rw [rts_cons] at h
    obtain ⟨v, r, rfl, h1, h2⟩ := h
    cases i with
    | zero => simp at e; subst e; exact ⟨v, by simp, h1⟩
    | succ i => simpa using RTs.get (i := i) h2 (by simpa using e)
theorem RTs.get' : ∀ {ts : List T} {vs : List V} {i : Nat} {v : V}, RTs K H ts vs → vs[i]? = some v → ∃ t, ts[i]? = some t ∧ RT K H t v
  | [], vs, _, _, h, e => by rw [rts_nil] at h; subst h; simp at e
  | t :: ts, vs, i, x, h, e => by
    rw [rts_cons] at h
    obtain ⟨v, r, rfl, h1, h2⟩ := h
    cases i with
    | zero => simp at e; subst e; exact ⟨t, by simp, h1⟩
    | succ i => simpa using RTs.get' (i := i) h2 (by simpa using e)
theorem RTs.append : ∀ {ts us : List T} {vs ws : List V}, RTs K H ts vs → RTs K H us ws → RTs K H (ts ++ us) (vs ++ ws)
  | [], us, vs, ws, h, g => by rw [rts_nil] at h; subst h; exact g
  | t :: ts, us, vs, ws, h, g => by
    rw [rts_cons] at h
    obtain ⟨v, r, rfl, h1, h2⟩ := h
    exact .cons h1 (RTs.append h2 g)
theorem RTs.take : ∀ {ts : List T} {vs : List V} (n : Nat), RTs K H ts vs → RTs K H (ts.take n) (vs.take n)
  | [], vs, n, h => by rw [rts_nil] at h; subst h; simp; exact .nil
  | t :: ts, vs, 0, h => by simp; exact .nil
  | t :: ts, vs, n + 1, h => by
    rw [rts_cons] at h
    obtain ⟨v, r, rfl, h1, h2⟩ := h
    exact .cons h1 (RTs.take n h2)
theorem RTs.drop : ∀ {ts : List T} {vs : List V} (n : Nat), RTs K H ts vs → RTs K H (ts.drop n) (vs.drop n)
  | [], vs, n, h => by rw [rts_nil] at h; subst h; simp; exact .nil
  | t :: ts, vs, 0, h => h
  | t :: ts, vs, n + 1, h => by
    rw [rts_cons] at h
    obtain ⟨v, r, rfl, h1, h2⟩ := h
    exact RTs.drop n h2
theorem RTs.set {t : T} {v : V} (q : RT K H t v) : ∀ {ts : List T} {vs : List V} (n : Nat), RTs K H ts vs → RTs K H (ts.set n t) (vs.set n v)
  | [], vs, n, h => by rw [rts_nil] at h; subst h; simp; exact .nil
  | s :: ts, vs, n, h => by
    rw [rts_cons] at h
    obtain ⟨w, r, rfl, h1, h2⟩ := h
    cases n with
    | zero => exact .cons q h2
    | succ n => exact .cons h1 (RTs.set q n h2)
theorem RTs.reverse : ∀ {ts : List T} {vs : List V}, RTs K H ts vs → RTs K H ts.reverse vs.reverse
  | [], vs, h => by rw [rts_nil] at h; subst h; exact .nil
  | t :: ts, vs, h => by
    rw [rts_cons] at h
    obtain ⟨v, r, rfl, h1, h2⟩ := h
    rw [List.reverse_cons, List.reverse_cons]
    exact (RTs.reverse h2).append (.cons h1 .nil)
theorem RTs.ints : ∀ {ns : List Int} {vs : List V}, RTs K H (ns.map T.int) vs → vs = ns.map V.int
  | [], vs, h => by rw [List.map_nil, rts_nil] at h; exact h
  | n :: ns, vs, h => by
    rw [List.map_cons, rts_cons] at h
    obtain ⟨v, r, rfl, h1, h2⟩ := h
    rw [rt_int] at h1
    rw [h1, RTs.ints h2, List.map_cons]
theorem RTs.of_ints : ∀ {ns : List Int}, RTs K H (ns.map T.int) (ns.map V.int)
  | [] => .nil
  | n :: ns => .cons (by rw [rt_int]) RTs.of_ints
theorem RTs.strs : ∀ {ns : List Str} {vs : List V}, RTs K H (ns.map T.str) vs → vs = ns.map V.str
  | [], vs, h => by rw [List.map_nil, rts_nil] at h; exact h
  | n :: ns, vs, h => by
    rw [List.map_cons, rts_cons] at h
    obtain ⟨v, r, rfl, h1, h2⟩ := h
    rw [rt_str] at h1
    rw [h1, RTs.strs h2, List.map_cons]
theorem RTs.of_strs : ∀ {ns : List Str}, RTs K H (ns.map T.str) (ns.map V.str)
  | [] => .nil
  | n :: ns => .cons (by rw [rt_str]) RTs.of_strs
theorem RTs.flatrep {ts : List T} {vs : List V} (h : RTs K H ts vs) : ∀ n, RTs K H (List.replicate n ts).flatten (List.replicate n vs).flatten
  | 0 => .nil
  | n + 1 => by
    rw [List.replicate_succ, List.replicate_succ, List.flatten_cons, List.flatten_cons]
    exact h.append (RTs.flatrep h n)
end

/-- what may be read stays -/
structure Ext (H H' : Hp) : Prop where
  tups : ∀ a xs, H a = some (.tup xs) → H' a = some (.tup xs)
  frzs : ∀ a o u, H a = some (.frz o u) → H' a = some (.frz o u)
theorem Ext.refl (H : Hp) : Ext H H := ⟨fun _ _ h => h, fun _ _ _ h => h⟩
theorem Ext.trans {H H1 H2 : Hp} (a : Ext H H1) (b : Ext H1 H2) : Ext H H2 := ⟨fun c xs h => b.tups c xs (a.tups c xs h), fun c o u h => b.frzs c o u (a.frzs c o u h)⟩
theorem Ext.new {H : Hp} {p : Addr} {o : HO} (h : H p = none) : Ext H (upd H p o) :=
  ⟨fun a xs e => by rw [upd_ne (ne_of_none e h)]; exact e, fun a xs u e => by rw [upd_ne (ne_of_none e h)]; exact e⟩
/-- an object that is neither a tuple nor locked is written -/
theorem Ext.write {H : Hp} {p : Addr} {o o' : HO} (h : H p = some o) (h1 : ∀ xs, o ≠ .tup xs) (h2 : ∀ b u, o ≠ .frz b u) : Ext H (upd H p o') :=
  ⟨fun a xs e => by rw [upd_ne (ne_of e h (Ne.symm (h1 xs)))]; exact e, fun a b u e => by rw [upd_ne (ne_of e h (Ne.symm (h2 b u)))]; exact e⟩
section
variable {K : Zk} {H H' : Hp}
theorem Ext.sqT (x : Ext H H') {a : Addr} {vs : List V} (h : SqT K.K H a vs) : SqT K.K H' a vs := by
  rcases h with (h | ⟨o, h⟩) | h
  · exact .inl (.inl (x.tups _ _ h))
  · exact .inl (.inr ⟨o, x.frzs _ _ _ h⟩)
  · exact .inr h
theorem Ext.sqP (x : Ext H H') {a : Addr} {vs : List V} (h : SqP K.K H a vs) : SqP K.K H' a vs := h.imp (fun ⟨o, h, d⟩ => ⟨o, x.frzs _ _ _ h, d⟩) id
theorem Ext.sqF (x : Ext H H') {a : Addr} {vs : List V} (h : SqF K.K H a vs) : SqF K.K H' a vs := h.imp (fun ⟨o, h⟩ => ⟨o, x.frzs _ _ _ h⟩) id
mutual
theorem RT.ext (x : Ext H H') : ∀ (t : T) {v : V}, RT K H t v → RT K H' t v
  | .non, _, h => by rw [rt_non] at h ⊢; exact h
  | .bl b, _, h => by rw [rt_bl] at h ⊢; exact h
  | .int i, _, h => by rw [rt_int] at h ⊢; exact h
  | .str s, _, h => by rw [rt_str] at h ⊢; exact h
  | .adr a, _, h => by rw [rt_adr] at h ⊢; exact h
  | .tup ts, _, h => by
    rw [rt_tup] at h ⊢
    obtain ⟨a, vs, e, h1, h2⟩ := h
    exact ⟨a, vs, e, x.sqP h1, RTs.ext x ts h2⟩
  | .fl ts, _, h => by
    rw [rt_fl] at h ⊢
    obtain ⟨a, vs, e, h1, h2⟩ := h
    exact ⟨a, vs, e, x.sqF h1, RTs.ext x ts h2⟩
theorem RTs.ext (x : Ext H H') : ∀ (ts : List T) {vs : List V}, RTs K H ts vs → RTs K H' ts vs
  | [], _, h => by rw [rts_nil] at h ⊢; exact h
  | t :: ts, _, h => by
    rw [rts_cons] at h ⊢
    obtain ⟨v, r, e, h1, h2⟩ := h
    exact ⟨v, r, e, RT.ext x t h1, RTs.ext x ts h2⟩
end
end

/-- dicts -/
def DxAt (K : Zk) (a : Addr) (xs : List (List Key × Addr × Value)) : Heap → Prop := fun h =>
  (a == sysModules) = false ∧ xs.length ≤ sizeLine ∧ ∃ o es ep, h.get? a = some o ∧ o.ExactDict ∧ o.data = .dict es ep ∧ es.toList = xs.map (entryOfKey (tupleKind (mixKind K.P K.w))) ∧ (xs.map (·.1)).Nodup
abbrev RXs (K : Zk) (H : Hp) : List (List Key × T) → List (List Key × Addr × Value) → Prop :=
  Paired fun p q => p.1 = q.1 ∧ SqT K.K H q.2.1 (p.1.map kV) ∧ ∃ v, RelV v q.2.2 ∧ RT K H p.2 v
abbrev RKs {κ : Type} (K : Zk) (H : Hp) : List (κ × T) → List (κ × V) → Prop := Paired fun p q => p.1 = q.1 ∧ RT K H p.2 q.2
def RO (K : Zk) (H : Hp) (a : Addr) : MO → Prop
  | .lst xs => ∃ vs, H a = some (.lst vs) ∧ RTs K H xs vs
  | .ro xs => ∃ vs, Rd H a (.lst vs) ∧ RTs K H xs vs
  | .dk kvs => ∃ kv, H a = some (.dK kv) ∧ RKs K H kvs kv
  | .dx kvs => ∃ xs, H a = some (.ext (DxAt K a xs)) ∧ RXs K H kvs xs
def RelS (K : Zk) (S : Sto) (H : Hp) : Prop := ∀ a o, S a = some o → RO K H a o
abbrev Rho := List (Option T)
def RelE (K : Zk) (H : Hp) (σ : L2.St) (ρ : Rho) : Prop := σ.length = ρ.length ∧ ∀ (i : Nat) (t : T), ρ[i]? = some (some t) → ∃ v, σ[i]? = some (some v) ∧ RT K H t v
section
variable {K : Zk} {H H' : Hp} {S : Sto} {σ : L2.St} {ρ : Rho}
theorem RKs.ext {κ : Type} (x : Ext H H') : ∀ {kvs : List (κ × T)} {kv : List (κ × V)}, RKs K H kvs kv → RKs K H' kvs kv
  | _, _, .nil => .nil
  | _, _, .cons r t => .cons ⟨r.1, RT.ext x _ r.2⟩ (RKs.ext x t)
theorem RXs.ext (x : Ext H H') : ∀ {kvs : List (List Key × T)} {kv : List (List Key × Addr × Value)}, RXs K H kvs kv → RXs K H' kvs kv
  | _, _, .nil => .nil
  | _, _, .cons r t => .cons ⟨r.1, x.sqT r.2.1, let ⟨v, a, b⟩ := r.2.2; ⟨v, a, RT.ext x _ b⟩⟩ (RXs.ext x t)
theorem RO.some {a : Addr} {o : MO} (h : RO K H a o) : ∃ u, H a = some u := by
  cases o with
  | lst xs => obtain ⟨vs, e, _⟩ := h; exact ⟨_, e⟩
  | ro xs => obtain ⟨vs, e, _⟩ := h; rcases e with e | ⟨o, e⟩ <;> exact ⟨_, e⟩
  | dk kvs => obtain ⟨vs, e, _⟩ := h; exact ⟨_, e⟩
  | dx kvs => obtain ⟨vs, e, _⟩ := h; exact ⟨_, e⟩
theorem RO.keep {a : Addr} {o : MO} (h : RO K H a o) (x : Ext H H') (e : H' a = H a) : RO K H' a o := by
  cases o with
  | lst xs => obtain ⟨vs, h1, h2⟩ := h; exact ⟨vs, e.trans h1, RTs.ext x _ h2⟩
  | ro xs =>
    obtain ⟨vs, h1, h2⟩ := h
    refine ⟨vs, ?_, RTs.ext x _ h2⟩
    rcases h1 with h1 | ⟨o, h1⟩
    · exact .inl (e.trans h1)
    · exact .inr ⟨o, e.trans h1⟩
  | dk kvs => obtain ⟨vs, h1, h2⟩ := h; exact ⟨vs, e.trans h1, h2.ext x⟩
  | dx kvs => obtain ⟨vs, h1, h2⟩ := h; exact ⟨vs, e.trans h1, h2.ext x⟩
theorem RelS.none_of (r : RelS K S H) {p : Addr} (h : H p = none) : S p = none := by
  cases e : S p with
  | none => rfl
  | some o =>
    obtain ⟨u, q⟩ := (r p o e).some
    rw [h] at q; cases q
/-- a new untracked object does not matter -/
theorem RelS.new (r : RelS K S H) {p : Addr} {o : HO} (h : H p = none) : RelS K S (upd H p o) := fun a m e =>
  (r a m e).keep (.new h) (by
    obtain ⟨u, q⟩ := (r a m e).some
    rw [upd_ne (ne_of_none q h)])
/-- an object is laid or written -/
theorem RelS.put (r : RelS K S H) {p : Addr} {m : MO} {o : HO} (x : Ext H (upd H p o)) (h : RO K (upd H p o) p m) : RelS K (S.set p m) (upd H p o) := fun a u e => by
  by_cases hp : a = p
  · subst hp; rw [set_same] at e; cases e; exact h
  · rw [set_ne hp] at e
    exact (r a u e).keep x (upd_ne hp)
theorem RelE.ext (r : RelE K H σ ρ) (x : Ext H H') : RelE K H' σ ρ := ⟨r.1, fun i t e => by
  obtain ⟨v, h1, h2⟩ := r.2 i t e
  exact ⟨v, h1, RT.ext x _ h2⟩⟩
theorem RelE.set (r : RelE K H σ ρ) {t : T} {v : V} (h : RT K H t v) (i : Nat) : RelE K H (σ.set i (some v)) (ρ.set i (some t)) := by
  refine ⟨by rw [List.length_set, List.length_set]; exact r.1, fun j u e => ?_⟩
  by_cases hj : i = j
  · subst hj
    have hl : i < ρ.length := by
      rcases Nat.lt_or_ge i ρ.length with z | z
      · exact z
      · rw [List.getElem?_eq_none (by simpa using z)] at e; cases e
    rw [List.getElem?_set_self hl] at e
    cases e
    exact ⟨v, by rw [List.getElem?_set_self (by rw [r.1]; exact hl)], h⟩
  · rw [List.getElem?_set_ne hj] at e ⊢
    exact r.2 j u e
theorem RelE.setNone (r : RelE K H σ ρ) (i : Nat) : RelE K H (σ.set i none) (ρ.set i none) := by
  refine ⟨by rw [List.length_set, List.length_set]; exact r.1, fun j u e => ?_⟩
  by_cases hj : i = j
  · subst hj
    rcases Nat.lt_or_ge i ρ.length with z | z
    · rw [List.getElem?_set_self z] at e; cases e
    · rw [List.getElem?_eq_none (by simpa using z)] at e; cases e
  · rw [List.getElem?_set_ne hj] at e ⊢
    exact r.2 j u e
def wipeT (ρ : Rho) : List Nat → Rho
  | [] => ρ
  | v :: vs => (wipeT ρ vs).set v none
theorem RelE.wipe (r : RelE K H σ ρ) : ∀ vs : List Nat, RelE K H (L2.wipe σ vs) (wipeT ρ vs)
  | [] => r
  | v :: vs => by
    unfold L2.wipe wipeT
    exact (RelE.wipe r vs).setNone v
def startT (n : Nat) (ts : List T) : Rho := ts.map some ++ List.replicate (n - ts.length) none
theorem RelE.start {N : List Str} : ∀ {ts : List T} {vs : List V}, RTs K H ts vs → RelE K H (L2.start N vs) (startT N.length ts) := fun {ts vs} h => by
  have hl := h.length
  refine ⟨?_, fun i t e => ?_⟩
  · unfold L2.start startT
    simp only [List.length_append, List.length_map, List.length_replicate, hl]
  · unfold startT at e
    unfold L2.start
    rcases Nat.lt_or_ge i ts.length with z | z
    · rw [List.getElem?_append_left (by simpa using z), List.getElem?_map] at e
      obtain ⟨v, h1, h2⟩ := h.get (i := i) (t := t) (by
        cases q : ts[i]? with
        | none => rw [q] at e; simp at e
        | some u => rw [q] at e; simp at e; rw [e])
      exact ⟨v, by rw [List.getElem?_append_left (by simpa [← hl] using z), List.getElem?_map, h1]; rfl, h2⟩
    · rw [List.getElem?_append_right (by simpa using z), List.getElem?_replicate] at e
      split at e <;> cases e
end
end TL
set_option Elab.async false
set_option linter.all false
set_option maxRecDepth 100000
/-! TLt: new tuples, known to the object (they carry no dict). -/
namespace TL
open PySem PySem.Spec PyProof.Rows L2
abbrev tupOb (us : List Value) : Obj := { cls := .type "tuple", data := .seq us.toArray }
section
variable {X : Cx} {pins : List (Addr × Obj)} {σ : L2.St} {H : Hp} {s : Shared}
theorem frz_ok {P : Program} {w : World} {H' : Hp} {h : Heap} {p : Addr} {xs : List V} {us : List Value} (hz : xs.length ≤ sizeLine) (r : Vals xs us) (e : h.get? p = some (tupOb us)) : ObjOk P w H' h p (.frz (tupOb us) (.tup xs)) :=
  ⟨e, hz, us, r, ⟨_, e, rfl, _, rfl⟩⟩
theorem laid_tup (I : Inv X pins σ H s) {xs : List V} {us : List Value} (hz : xs.length ≤ sizeLine) (r : Vals xs us) :
    Inv X pins σ (upd H s.heap.objs.size (.frz (tupOb us) (.tup xs))) { s with heap := s.heap.push (tupOb us) } :=
  I.laid (t' := s.toks) (o := .frz (tupOb us) (.tup xs)) (fun b u e => Heap.get?_push_of_some _ e) (Nat.le_refl _) (frz_ok hz r (Heap.get?_push_size _ rfl))
/-- a new tuple xs is told -/
abbrev NewT (H : Hp) (xs : List V) (Q : VK) : Prop := ∀ p ob, H p = none → ob.dict = none → Q (.ref p) (upd H p (.frz ob (.tup xs)))
def tTupF (t : TA) : TE := fun σ H Q => t σ H fun xs H1 => xs.length ≤ sizeLine ∧ NewT H1 xs Q
theorem pe_tupF {es : List Expr} {t : TA} {x1} {pos : Pos} (h : PA X es t) : PE X (.Tuple es x1 pos) (tTupF t) := by
  refine ⟨fun pins s σ H Q I hq => ?_⟩
  refine wpAny_Tuple_spliced (thn (h.run pos pins s σ H _ I hq) fun us s1 ⟨xs, H1, I1, r, z, q⟩ => ⟨by rw [← r.length]; exact z, ?_⟩)
  exact ⟨.ref s1.heap.objs.size, _, laid_tup I1 z r, rfl, q _ _ (I1.hok.fresh (Nat.le_refl _)) rfl⟩
def rCatF (K : PySem.W.Frag) : R2 := fun x y H Q => ∃ a b xs ys, x = .ref a ∧ y = .ref b ∧ SqT K H a xs ∧ SqT K H b ys ∧ xs.length + ys.length ≤ sizeLine ∧
  (xs = [] → Q (.ref b) H) ∧ (xs ≠ [] → ys = [] → Q (.ref a) H) ∧ (xs ≠ [] → ys ≠ [] → NewT H (xs ++ ys) Q)
theorem op_catF : OpR X (binaryOp .Add) (rCatF X.K) := by
  intro pins s σ H x y v u Q I rx ry h
  obtain ⟨a, b, xs, ys, rfl, rfl, ha, hb, hz, q0, q1, q2⟩ := h
  cases rx
  cases ry
  obtain ⟨its, r1, p1, _⟩ := I.tuple ha
  obtain ⟨its2, r2, p2, _⟩ := I.tuple hb
  by_cases hx : xs = []
  · subst hx
    cases r1
    exact cat_tup0 p1 p2 ⟨.ref b, H, I, rfl, q0 rfl⟩
  · refine HT.cat_tup p1 p2 (fun z => hx (r1.nil_iff.mp z)) (fun z => ⟨.ref a, H, I, rfl, q1 hx (r2.nil_iff.mp z)⟩) (fun z => ?_) (by rw [← r1.length, ← r2.length]; exact hz)
    exact ⟨.ref s.heap.objs.size, _, laid_tup I (by rw [List.length_append]; exact hz) (r1.append r2), rfl, q2 hx (fun w => z (r2.nil_iff.mpr w)) _ _ (I.hok.fresh (Nat.le_refl _)) rfl⟩
def rSlF (K : PySem.W.Frag) : V → Option Int → Option Int → Hp → VK → Prop := fun x lo hi H Q => ∃ a xs, x = .ref a ∧ SqT K H a xs ∧
  (HT.sIx xs.length 0 lo = 0 ∧ HT.sIx xs.length xs.length hi = xs.length → Q (.ref a) H) ∧ (¬ (HT.sIx xs.length 0 lo = 0 ∧ HT.sIx xs.length xs.length hi = xs.length) → NewT H (cutV xs lo hi) Q)
theorem sl_tupF : SlR X (rSlF X.K) := by
  intro pins s σ H x v vl vu lo hi sl Q I rx hs pl pu h
  obtain ⟨a, xs, rfl, hx, q1, q2⟩ := h
  cases rx
  obtain ⟨its, r, ht, hz⟩ := I.tuple hx
  have hlen : its.toArray.size = xs.length := by rw [List.size_toArray]; exact r.length.symm
  refine ⟨"tuple", _, PyProof.Rows.slot_tuple_getitem.lookup, ht.typeIs, ?_⟩
  by_cases hw : HT.sIx xs.length 0 lo = 0 ∧ HT.sIx xs.length xs.length hi = xs.length
  · exact getItem_tuple_whole ht hs pl pu (by rw [hlen]; exact hw) ⟨.ref a, H, I, rfl, q1 hw⟩
  · refine HT.getItem_tuple_cut ht hs pl pu (by rw [hlen]; exact hw) ?_ (by rw [hlen]; exact hz)
    rw [hlen]
    exact ⟨.ref s.heap.objs.size, _, laid_tup I (Nat.le_trans (cutV_length xs lo hi) hz) ((r.drop (HT.sIx xs.length 0 lo)).take (HT.sIx xs.length xs.length hi - HT.sIx xs.length 0 lo)), rfl, q2 hw _ _ (I.hok.fresh (Nat.le_refl _)) rfl⟩
theorem call_tupleF : CallR X (.type "tuple") (fun xs H Q => ∃ p ys, xs = [.ref p] ∧ ((SqL X.K H p ys ∧ NewT H ys Q) ∨ (SqT X.K H p ys ∧ Q (.ref p) H))) := by
  intro pins s σ H xs us Q I r h
  obtain ⟨p, ys, rfl, h⟩ := h
  obtain ⟨u, rfl, rx⟩ := vals1 r
  cases rx
  rcases h with ⟨hq, q⟩ | ⟨hq, q⟩
  · obtain ⟨its, r', pl, hz⟩ := I.list hq
    have hlen := r'.length
    refine call_tuple_list pl.isList (fun h' kp => ?_) (by simp only [List.size_toArray] <;> omega)
    have I1 : Inv X pins σ H { s with heap := h' } := I.kept (t' := s.toks) kp
    exact ⟨.ref h'.objs.size, _, laid_tup I1 hz r', rfl, q _ _ (I1.hok.fresh (Nat.le_refl _)) rfl⟩
  · obtain ⟨its, r', pl, hz⟩ := I.tuple hq
    exact call_tuple_same pl ⟨.ref p, H, I, rfl, q⟩
end
end TL
set_option Elab.async false
set_option linter.all false
set_option maxRecDepth 100000
/-! TL1: judgements over T: expressions, tests, arguments, statements, targets, walks; going from the hand layer's rules to these. -/
namespace TL
open PySem PySem.Spec PyProof.Rows L2

abbrev TTE := Rho → Sto → (T → Sto → Prop) → Prop
abbrev TTT := Rho → Sto → (Bool → Sto → Prop) → Prop
abbrev TTA := Rho → Sto → (List T → Sto → Prop) → Prop
structure EndsT where
  nx : Rho → Sto → Prop
  rt : T → Sto → Prop
  bk : Rho → Sto → Prop := fun _ _ => False
  ct : Rho → Sto → Prop := fun _ _ => False
abbrev TTS := EndsT → Rho → Sto → Prop
abbrev TTG := T → Rho → Sto → (Rho → Sto → Prop) → Prop
abbrev TTGs := List T → Rho → Sto → (Rho → Sto → Prop) → Prop
structure Src where
  items : List T
  live : Sto → Prop
abbrev TTI := Rho → Sto → (Src → Sto → Prop) → Prop

section
variable (K : Zk)
/-- what is wanted, seen from the heap ahead -/
def WE (H : Hp) (Q : T → Sto → Prop) : VK := fun v H' => ∃ r S', Ext H H' ∧ RelS K S' H' ∧ RT K H' r v ∧ Q r S'
def WT (H : Hp) (Q : Bool → Sto → Prop) : Bool → Hp → Prop := fun b H' => ∃ S', Ext H H' ∧ RelS K S' H' ∧ Q b S'
def WA (H : Hp) (Q : List T → Sto → Prop) : List V → Hp → Prop := fun vs H' => ∃ r S', Ext H H' ∧ RelS K S' H' ∧ RTs K H' r vs ∧ Q r S'
def WR (H : Hp) (Q : Rho → Sto → Prop) : L2.St → Hp → Prop := fun σ' H' => ∃ ρ' S', Ext H H' ∧ RelS K S' H' ∧ RelE K H' σ' ρ' ∧ Q ρ' S'
def WD (H : Hp) (D : EndsT) : Ends := { nx := WR K H D.nx, rt := WE K H D.rt, bk := WR K H D.bk, ct := WR K H D.ct }
def LE (t : TTE) : TE := fun σ H Q => ∃ ρ S Q', RelS K S H ∧ RelE K H σ ρ ∧ t ρ S Q' ∧ ∀ v H', WE K H Q' v H' → Q v H'
def LT (t : TTT) : TT := fun σ H Q => ∃ ρ S Q', RelS K S H ∧ RelE K H σ ρ ∧ t ρ S Q' ∧ ∀ v H', WT K H Q' v H' → Q v H'
def LA (t : TTA) : TA := fun σ H Q => ∃ ρ S Q', RelS K S H ∧ RelE K H σ ρ ∧ t ρ S Q' ∧ ∀ v H', WA K H Q' v H' → Q v H'
def LS (t : TTS) : TS := fun D σ H => ∃ ρ S D', RelS K S H ∧ RelE K H σ ρ ∧ t D' ρ S ∧ (∀ σ' H', WR K H D'.nx σ' H' → D.nx σ' H') ∧ (∀ v H', WE K H D'.rt v H' → D.rt v H') ∧
  (∀ σ' H', WR K H D'.bk σ' H' → D.bk σ' H') ∧ (∀ σ' H', WR K H D'.ct σ' H' → D.ct σ' H')
def LG (t : TTG) : TG := fun v σ H Q => ∃ r ρ S Q', RelS K S H ∧ RelE K H σ ρ ∧ RT K H r v ∧ t r ρ S Q' ∧ ∀ σ' H', WR K H Q' σ' H' → Q σ' H'
def LGs (t : TTGs) : TGs := fun v σ H Q => ∃ r ρ S Q', RelS K S H ∧ RelE K H σ ρ ∧ RTs K H r v ∧ t r ρ S Q' ∧ ∀ σ' H', WR K H Q' σ' H' → Q σ' H'
structure Fits (H1 : Hp) (J : It) (src : Src) : Prop where
  go : ∀ i S' H' x, RelS K S' H' → Ext H1 H' → src.live S' → src.items[i]? = some x → J.go i H' ∧ ∀ v H'', J.yld i H' v H'' → Ext H' H'' ∧ RelS K S' H'' ∧ RT K H'' x v
  stop : ∀ i S' H', RelS K S' H' → Ext H1 H' → src.live S' → src.items[i]? = none → J.stop i H'
def LI (w : TTI) : TI := fun σ H R => ∃ ρ S Q', RelS K S H ∧ RelE K H σ ρ ∧ w ρ S Q' ∧ ∀ src S1 J H1, Ext H H1 → RelS K S1 H1 → Fits K H1 J src → Q' src S1 → R J H1
end
abbrev QE (X : Cx) (e : Expr) (t : TTE) : Prop := PE X e (LE (zx X) t)
abbrev QT (X : Cx) (e : Expr) (t : TTT) : Prop := PT X e (LT (zx X) t)
abbrev QW (X : Cx) (e : Expr) (t : TTT) : Prop := PW X e (LT (zx X) t)
abbrev QA (X : Cx) (es : List Expr) (t : TTA) : Prop := PA X es (LA (zx X) t)
abbrev QS (X : Cx) (s : Stmt) (t : TTS) : Prop := PS X s (LS (zx X) t)
abbrev QSs (X : Cx) (s : List Stmt) (t : TTS) : Prop := PSs X s (LS (zx X) t)
abbrev QG (X : Cx) (e : Expr) (t : TTG) : Prop := PG X e (LG (zx X) t)
abbrev QGs (X : Cx) (es : List Expr) (t : TTGs) : Prop := PGs X es (LGs (zx X) t)
abbrev QI (X : Cx) (tg it : Expr) (w : TTI) : Prop := PI X tg it (LI (zx X) w)

section
variable {K : Zk} {H H0 H1 : Hp}
theorem WE.ext (x : Ext H0 H) {Q : T → Sto → Prop} {v : V} {H' : Hp} (h : WE K H Q v H') : WE K H0 Q v H' := by
  obtain ⟨r, S', e, a, b, c⟩ := h; exact ⟨r, S', x.trans e, a, b, c⟩
theorem WT.ext (x : Ext H0 H) {Q : Bool → Sto → Prop} {v : Bool} {H' : Hp} (h : WT K H Q v H') : WT K H0 Q v H' := by
  obtain ⟨S', e, a, c⟩ := h; exact ⟨S', x.trans e, a, c⟩
theorem WA.ext (x : Ext H0 H) {Q : List T → Sto → Prop} {v : List V} {H' : Hp} (h : WA K H Q v H') : WA K H0 Q v H' := by
  obtain ⟨r, S', e, a, b, c⟩ := h; exact ⟨r, S', x.trans e, a, b, c⟩
theorem WR.ext (x : Ext H0 H) {Q : Rho → Sto → Prop} {v : L2.St} {H' : Hp} (h : WR K H Q v H') : WR K H0 Q v H' := by
  obtain ⟨r, S', e, a, b, c⟩ := h; exact ⟨r, S', x.trans e, a, b, c⟩
/-- nothing has changed -/
theorem WE.here {Q : T → Sto → Prop} {v : V} {r : T} {S : Sto} (x : Ext H0 H) (rs : RelS K S H) (h : RT K H r v) (q : Q r S) : WE K H0 Q v H := ⟨r, S, x, rs, h, q⟩
/-- a new object -/
theorem WE.laid {Q : T → Sto → Prop} {p : Addr} {o : HO} {m : MO} {S : Sto} (x : Ext H0 H) (rs : RelS K S H) (hp : H p = none) (ho : RO K (upd H p o) p m) (q : Q (.adr p) (S.set p m)) : WE K H0 Q (.ref p) (upd H p o) :=
  ⟨.adr p, _, x.trans (.new hp), rs.put (.new hp) ho, by rw [rt_adr], q⟩
/-- a new list -/
theorem WE.lst {Q : T → Sto → Prop} {p : Addr} {vs : List V} {ts : List T} {S : Sto} (x : Ext H0 H) (rs : RelS K S H) (hp : H p = none) (ht : RTs K H ts vs) (q : Q (.adr p) (S.set p (.lst ts))) : WE K H0 Q (.ref p) (upd H p (.lst vs)) :=
  WE.laid (m := .lst ts) x rs hp ⟨vs, upd_same, RTs.ext (.new hp) _ ht⟩ q
/-- a new tuple -/
theorem WE.tup {Q : T → Sto → Prop} {p : Addr} {ob : Obj} {vs : List V} {ts : List T} {S : Sto} (x : Ext H0 H) (rs : RelS K S H) (hp : H p = none) (hd : ob.dict = none) (ht : RTs K H ts vs) (q : Q (.tup ts) S) : WE K H0 Q (.ref p) (upd H p (.frz ob (.tup vs))) :=
  ⟨.tup ts, S, x.trans (.new hp), rs.new hp, by rw [rt_tup]; exact ⟨p, vs, rfl, .inl ⟨ob, upd_same, hd⟩, RTs.ext (.new hp) _ ht⟩, q⟩
end
section
variable {X : Cx} {e : Expr} {es : List Expr} {st : Stmt} {sts : List Stmt}
/-- from a rule of the hand layer -/
theorem qe_of {tt : TE} {t : TTE} (h : PE X e tt) (hi : ∀ σ H ρ S Q, RelS (zx X) S H → RelE (zx X) H σ ρ → t ρ S Q → tt σ H (WE (zx X) H Q)) : QE X e t := by
  refine ⟨fun pins s σ H Q I h1 => ?_⟩
  obtain ⟨ρ, S, Q', rs, re, q, m⟩ := h1
  exact thn (h.run pins s σ H _ I (hi σ H ρ S Q' rs re q)) fun u s' ⟨v, H', I', r, w⟩ => ⟨v, H', I', r, m v H' w⟩
theorem qt_of {tt : TT} {t : TTT} (h : PT X e tt) (hi : ∀ σ H ρ S Q, RelS (zx X) S H → RelE (zx X) H σ ρ → t ρ S Q → tt σ H (WT (zx X) H Q)) : QT X e t := by
  refine ⟨fun pins s σ H Q I h1 => ?_⟩
  obtain ⟨ρ, S, Q', rs, re, q, m⟩ := h1
  exact thn (h.run pins s σ H _ I (hi σ H ρ S Q' rs re q)) fun u s' ⟨H', I', w⟩ => ⟨H', I', m u H' w⟩
theorem qw_of {tt : TT} {t : TTT} (h : PW X e tt) (hi : ∀ σ H ρ S Q, RelS (zx X) S H → RelE (zx X) H σ ρ → t ρ S Q → tt σ H (WT (zx X) H Q)) : QW X e t := by
  refine ⟨fun wh pins s σ H Q I h1 => ?_⟩
  obtain ⟨ρ, S, Q', rs, re, q, m⟩ := h1
  exact thn (h.run wh pins s σ H _ I (hi σ H ρ S Q' rs re q)) fun u s' ⟨H', I', w⟩ => ⟨H', I', m u H' w⟩
theorem qa_of {tt : TA} {t : TTA} (h : PA X es tt) (hi : ∀ σ H ρ S Q, RelS (zx X) S H → RelE (zx X) H σ ρ → t ρ S Q → tt σ H (WA (zx X) H Q)) : QA X es t := by
  refine ⟨fun pos pins s σ H Q I h1 => ?_⟩
  obtain ⟨ρ, S, Q', rs, re, q, m⟩ := h1
  exact thn (h.run pos pins s σ H _ I (hi σ H ρ S Q' rs re q)) fun u s' ⟨v, H', I', r, w⟩ => ⟨v, H', I', r, m v H' w⟩
theorem sp_mono {pins : List (Addr × Obj)} {D D' : Ends} {f : PySem.Flow} {s' : Shared} (h : SP X pins D f s') (h1 : ∀ σ H, D.nx σ H → D'.nx σ H) (h2 : ∀ v H, D.rt v H → D'.rt v H) (h3 : ∀ σ H, D.bk σ H → D'.bk σ H) (h4 : ∀ σ H, D.ct σ H → D'.ct σ H) : SP X pins D' f s' := by
  cases f with
  | next => obtain ⟨σ', H', I, q⟩ := h; exact ⟨σ', H', I, h1 _ _ q⟩
  | brk => obtain ⟨σ', H', I, q⟩ := h; exact ⟨σ', H', I, h3 _ _ q⟩
  | cont => obtain ⟨σ', H', I, q⟩ := h; exact ⟨σ', H', I, h4 _ _ q⟩
  | ret u => obtain ⟨v, σ', H', I, r, q⟩ := h; exact ⟨v, σ', H', I, r, h2 _ _ q⟩
theorem qs_of {tt : TS} {t : TTS} (h : PS X st tt) (hi : ∀ σ H ρ S D, RelS (zx X) S H → RelE (zx X) H σ ρ → t D ρ S → tt (WD (zx X) H D) σ H) : QS X st t := by
  refine ⟨fun pins s σ H D I h1 => ?_⟩
  obtain ⟨ρ, S, D', rs, re, q, m1, m2, m3, m4⟩ := h1
  exact thn (h.run pins s σ H _ I (hi σ H ρ S D' rs re q)) fun f s' w => sp_mono w m1 m2 m3 m4
theorem qss_of {tt : TS} {t : TTS} (h : PSs X sts tt) (hi : ∀ σ H ρ S D, RelS (zx X) S H → RelE (zx X) H σ ρ → t D ρ S → tt (WD (zx X) H D) σ H) : QSs X sts t := by
  refine ⟨fun pins s σ H D I h1 => ?_⟩
  obtain ⟨ρ, S, D', rs, re, q, m1, m2, m3, m4⟩ := h1
  exact thn (h.run pins s σ H _ I (hi σ H ρ S D' rs re q)) fun f s' w => sp_mono w m1 m2 m3 m4
theorem qg_of {tt : TG} {t : TTG} (h : PG X e tt) (hi : ∀ v σ H r ρ S Q, RelS (zx X) S H → RelE (zx X) H σ ρ → RT (zx X) H r v → t r ρ S Q → tt v σ H (WR (zx X) H Q)) : QG X e t := by
  refine ⟨fun pins s σ H v u Q I rv h1 => ?_⟩
  obtain ⟨r, ρ, S, Q', rs, re, rr, q, m⟩ := h1
  exact thn (h.run pins s σ H v u _ I rv (hi v σ H r ρ S Q' rs re rr q)) fun _ s' ⟨σ', H', I', w⟩ => ⟨σ', H', I', m _ _ w⟩
theorem qgs_of {tt : TGs} {t : TTGs} (h : PGs X es tt) (hi : ∀ v σ H r ρ S Q, RelS (zx X) S H → RelE (zx X) H σ ρ → RTs (zx X) H r v → t r ρ S Q → tt v σ H (WR (zx X) H Q)) : QGs X es t := by
  refine ⟨fun pins s σ H v u Q I rv h1 => ?_⟩
  obtain ⟨r, ρ, S, Q', rs, re, rr, q, m⟩ := h1
  exact thn (h.run pins s σ H v u _ I rv (hi v σ H r ρ S Q' rs re rr q)) fun _ s' ⟨σ', H', I', w⟩ => ⟨σ', H', I', m _ _ w⟩
theorem qi_of {tg it : Expr} {tt : TI} {w : TTI} (h : PI X tg it tt) (hi : ∀ σ H ρ S Q, RelS (zx X) S H → RelE (zx X) H σ ρ → w ρ S Q → tt σ H (fun J H1 => ∃ src S1, Ext H H1 ∧ RelS (zx X) S1 H1 ∧ Fits (zx X) H1 J src ∧ Q src S1)) : QI X tg it w := by
  refine ⟨fun pins s σ H R I h1 => ?_⟩
  obtain ⟨ρ, S, Q', rs, re, q, m⟩ := h1
  refine thn (h.run pins s σ H _ I (hi σ H ρ S Q' rs re q)) fun u s' w => thn w fun u' s'' ⟨i, fp, tn, J, H', a1, a2, a3, a4, a5, src, S1, b1, b2, b3, b4⟩ => ?_
  exact ⟨i, fp, tn, J, H', a1, a2, a3, a4, a5, m src S1 J H' b1 b2 b3 b4⟩
/-- to use a part: LE of what the reader says -/
theorem LE.mk {K : Zk} {t : TTE} {σ : L2.St} {H : Hp} {ρ : Rho} {S : Sto} {Q : T → Sto → Prop} {R : VK} (rs : RelS K S H) (re : RelE K H σ ρ) (h : t ρ S Q)
    (k : ∀ r S' v H', Ext H H' → RelS K S' H' → RT K H' r v → Q r S' → R v H') : LE K t σ H R := ⟨ρ, S, Q, rs, re, h, fun v H' ⟨r, S', a, b, c, d⟩ => k r S' v H' a b c d⟩
theorem LT.mk {K : Zk} {t : TTT} {σ : L2.St} {H : Hp} {ρ : Rho} {S : Sto} {Q : Bool → Sto → Prop} {R : Bool → Hp → Prop} (rs : RelS K S H) (re : RelE K H σ ρ) (h : t ρ S Q)
    (k : ∀ b S' H', Ext H H' → RelS K S' H' → Q b S' → R b H') : LT K t σ H R := ⟨ρ, S, Q, rs, re, h, fun v H' ⟨S', a, b, d⟩ => k v S' H' a b d⟩
theorem LA.mk {K : Zk} {t : TTA} {σ : L2.St} {H : Hp} {ρ : Rho} {S : Sto} {Q : List T → Sto → Prop} {R : List V → Hp → Prop} (rs : RelS K S H) (re : RelE K H σ ρ) (h : t ρ S Q)
    (k : ∀ r S' v H', Ext H H' → RelS K S' H' → RTs K H' r v → Q r S' → R v H') : LA K t σ H R := ⟨ρ, S, Q, rs, re, h, fun v H' ⟨r, S', a, b, c, d⟩ => k r S' v H' a b c d⟩
theorem LS.mk {K : Zk} {t : TTS} {σ : L2.St} {H H0 : Hp} {ρ : Rho} {S : Sto} {D : EndsT} (x : Ext H0 H) (rs : RelS K S H) (re : RelE K H σ ρ) (h : t D ρ S) : LS K t (WD K H0 D) σ H :=
  ⟨ρ, S, D, rs, re, h, fun _ _ w => w.ext x, fun _ _ w => w.ext x, fun _ _ w => w.ext x, fun _ _ w => w.ext x⟩
theorem LG.mk {K : Zk} {t : TTG} {v : V} {r : T} {σ : L2.St} {H H0 : Hp} {ρ : Rho} {S : Sto} {Q : Rho → Sto → Prop} (x : Ext H0 H) (rs : RelS K S H) (re : RelE K H σ ρ) (rr : RT K H r v) (h : t r ρ S Q) : LG K t v σ H (WR K H0 Q) :=
  ⟨r, ρ, S, Q, rs, re, rr, h, fun _ _ w => w.ext x⟩
end

/-! ### names, constants -/
def tv (i : Nat) : TTE := fun ρ S Q => match ρ[i]? with | some (some v) => Q v S | _ => False
def tc (c : T) : TTE := fun _ S Q => Q c S
section
variable {X : Cx} {pos : Pos}
theorem qv (i : Nat) {x : Str} (hN : X.N[i]? = some x := by rfl) (hv : Vis X.env.scope x := by first | exact Or.inl rfl | exact Or.inr (Or.inl rfl) | exact Or.inr (Or.inr rfl)) (hd : (x == ("__debug__" : Str)) = false := by decide)
    (hcd : (x == ("__classdict__" : Str)) = false := by decide) : QE X (.Name x pos) (tv i) := by
  refine qe_of (pe_var hN hv hd hcd) fun σ H ρ S Q rs re h => ?_
  unfold tv at h
  split at h
  · rename_i v e
    obtain ⟨w, h1, h2⟩ := re.2 i v e
    exact ⟨w, h1, .here (.refl _) rs h2 h⟩
  · exact h.elim
theorem qc_int {i : Int} {j} : QE X (.Constant (.int i) j pos) (tc (.int i)) := qe_of pe_int fun σ H ρ S Q rs re h => .here (.refl _) rs (by rw [rt_int]) h
theorem qc_bl {b : Bool} {j} : QE X (.Constant (.bool b) j pos) (tc (.bl b)) := qe_of pe_bl fun σ H ρ S Q rs re h => .here (.refl _) rs (by rw [rt_bl]) h
theorem qc_non {j} : QE X (.Constant .none j pos) (tc .non) := qe_of pe_non fun σ H ρ S Q rs re h => .here (.refl _) rs (by rw [rt_non]) h
theorem qc_str {x : Str} {j} : QE X (.Constant (.str x) j pos) (tc (.str x)) := qe_of pe_str fun σ H ρ S Q rs re h => .here (.refl _) rs (by rw [rt_str]) h
/-- a constant of the module: a tree of tuples, texts, numbers, or an object -/
structure Glo (K : Zk) (u : Value) (c : T) : Prop where
  ex : ∃ v, RelV v u ∧ ∀ H, RT K H c v
theorem qc_glo {x : Str} {u : Value} {c : T} (hg : Gl X x) (hm : X.mg x = some u) (G : Glo (zx X) u c) (hd : (x == ("__debug__" : Str)) = false := by decide) : QE X (.Name x pos) (tc c) := by
  obtain ⟨v, r, hv⟩ := G.ex
  exact qe_of (pe_glob hg hm r hd) fun σ H ρ S Q rs re h => .here (.refl _) rs (hv H) h

/-! ### two parts by an operator -/
abbrev O2 := T → T → Sto → (T → Sto → Prop) → Prop
def tb (o : O2) (ta tb : TTE) : TTE := fun ρ S Q => ta ρ S fun x S1 => tb ρ S1 fun y S2 => o x y S2 Q
/-- an operator by values -/
def Op2 (K : Zk) (r : V → V → Hp → VK → Prop) (o : O2) : Prop :=
  ∀ x y v u S H H0 Q R, Ext H0 H → RelS K S H → RT K H x v → RT K H y u → o x y S Q → (∀ v H', WE K H0 Q v H' → R v H') → r v u H R
variable {a b c : Expr} {ta tb' tc' : TTE}
theorem q_op {op : Operator} {r : V → V → Hp → VK → Prop} {o : O2} (ho : OpR X (binaryOp op) r) (h : Op2 (zx X) r o) (ha : QE X a ta) (hb : QE X b tb') : QE X (.BinOp a op b pos) (tb o ta tb') :=
  qe_of (pe_op ho ha hb) fun σ H ρ S Q rs re q => LE.mk rs re q fun x S1 v H1 e1 rs1 rx q1 => LE.mk rs1 (re.ext e1) q1 fun y S2 u H2 e2 rs2 ry q2 => h x y v u S2 H2 H Q _ (e1.trans e2) rs2 (RT.ext e2 _ rx) ry q2 fun _ _ w => w
theorem q_cmp {op : CmpOp} {r : V → V → Hp → VK → Prop} {o : O2} (ho : OpR X (compareOp op) r) (h : Op2 (zx X) r o) (ha : QE X a ta) (hb : QE X b tb') (hm : behindInMarks op b = false := by rfl) : QE X (.Compare a [op] [b] pos) (tb o ta tb') :=
  qe_of (pe_cmpR ho ha hb hm) fun σ H ρ S Q rs re q => LE.mk rs re q fun x S1 v H1 e1 rs1 rx q1 => LE.mk rs1 (re.ext e1) q1 fun y S2 u H2 e2 rs2 ry q2 => h x y v u S2 H2 H Q _ (e1.trans e2) rs2 (RT.ext e2 _ rx) ry q2 fun _ _ w => w
/-- .. as a test -/
def tq (t : TTE) : TTT := fun ρ S Q => t ρ S fun x S1 => match x with | .bl k => Q k S1 | _ => False
def kq (Q : Bool → Sto → Prop) : T → Sto → Prop := fun x S1 => match x with | .bl k => Q k S1 | _ => False
theorem kq_of {K : Zk} {H H' : Hp} {Q : Bool → Sto → Prop} {v : V} (w : WE K H (kq Q) v H') : ∃ k, v = .bl k ∧ WT K H Q k H' := by
  obtain ⟨r, S', e, rs, rr, q⟩ := w
  cases r with
  | bl k => rw [rt_bl] at rr; exact ⟨k, rr, S', e, rs, q⟩
  | _ => exact q.elim
theorem t_cmp {op : CmpOp} {r : V → V → Hp → VK → Prop} {o : O2} (ho : OpR X (compareOp op) r) (h : Op2 (zx X) r o) (ha : QE X a ta) (hb : QE X b tb') (hm : behindInMarks op b = false := by rfl) : QT X (.Compare a [op] [b] pos) (tq (tb o ta tb')) := by
  refine qt_of (pt_cmpR ho ha hb hm) fun σ H ρ S Q rs re q => LE.mk rs re q fun x S1 v H1 e1 rs1 rx q1 => LE.mk rs1 (re.ext e1) q1 fun y S2 u H2 e2 rs2 ry q2 => ?_
  exact h x y v u S2 H2 H (kq Q) _ (e1.trans e2) rs2 (RT.ext e2 _ rx) ry q2 fun _ _ w => kq_of w
theorem Op2.or {K : Zk} {r r' : V → V → Hp → VK → Prop} {o o' p : O2} (h : Op2 K r o) (h' : Op2 K r' o') (z : ∀ x y S Q, p x y S Q → o x y S Q ∨ o' x y S Q) : Op2 K (fun x y H Q => r x y H Q ∨ r' x y H Q) p :=
  fun x y v u S H H0 Q R e rs rx ry q k => (z x y S Q q).imp (fun q => h x y v u S H H0 Q R e rs rx ry q k) fun q => h' x y v u S H H0 Q R e rs rx ry q k
end
end TL
set_option Elab.async false
set_option linter.all false
set_option maxRecDepth 100000
/-! TL2: operators, comparisons, subscripts, slices over T. -/
namespace TL
open PySem PySem.Spec PyProof.Rows L2

/-! ### data -/
mutual
def T.pur : T → Bool
  | .adr _ => false
  | .fl _ => false
  | .tup xs => T.purs xs
  | .non => true
  | .bl _ => true
  | .int _ => true
  | .str _ => true
def T.purs : List T → Bool
  | [] => true
  | x :: xs => T.pur x && T.purs xs
end
mutual
def T.depth : T → Nat
  | .tup xs => T.depths xs + 1
  | .non => 0
  | .bl _ => 0
  | .int _ => 0
  | .str _ => 0
  | .adr _ => 0
  | .fl _ => 0
def T.depths : List T → Nat
  | [] => 0
  | x :: xs => max (T.depth x) (T.depths xs)
end
mutual
/-- == as Python has it (True == 1) -/
def eqT : T → T → Bool
  | .non, y => match y with | .non => true | _ => false
  | .bl a, y => match y with | .bl b => a == b | .int j => (if a then 1 else 0) == j | _ => false
  | .int i, y => match y with | .bl b => i == (if b then 1 else 0) | .int j => i == j | _ => false
  | .str x, y => match y with | .str z => x == z | _ => false
  | .tup xs, y => match y with | .tup ys => eqTs xs ys | _ => false
  | .adr _, _ => false
  | .fl _, _ => false
def eqTs : List T → List T → Bool
  | [], ys => match ys with | [] => true | _ => false
  | x :: xs, ys => match ys with | y :: ys => eqT x y && eqTs xs ys | [] => false
end
theorem pur_tup {xs : List T} : T.pur (.tup xs) = T.purs xs := by conv => lhs; unfold T.pur
theorem pur_non : T.pur .non = true := by unfold T.pur; rfl
theorem pur_bl {b : Bool} : T.pur (.bl b) = true := by unfold T.pur; rfl
theorem pur_int {i : Int} : T.pur (.int i) = true := by unfold T.pur; rfl
theorem pur_str {x : Str} : T.pur (.str x) = true := by unfold T.pur; rfl
theorem pur_adr {a : Addr} : T.pur (.adr a) = false := by unfold T.pur; rfl
theorem pur_fl {a : List T} : T.pur (.fl a) = false := by unfold T.pur; rfl
theorem purs_nil : T.purs [] = true := by unfold T.purs; rfl
theorem purs_cons {x : T} {xs : List T} : T.purs (x :: xs) = (T.pur x && T.purs xs) := by conv => lhs; unfold T.purs
theorem purs_all : ∀ xs : List T, T.purs xs = xs.all T.pur
  | [] => by rw [purs_nil]; rfl
  | x :: xs => by rw [purs_cons, purs_all xs]; rfl
theorem depth_tup {xs : List T} : T.depth (.tup xs) = T.depths xs + 1 := by conv => lhs; unfold T.depth
theorem depth_non : T.depth .non = 0 := by unfold T.depth; rfl
theorem depth_bl {b : Bool} : T.depth (.bl b) = 0 := by unfold T.depth; rfl
theorem depth_int {i : Int} : T.depth (.int i) = 0 := by unfold T.depth; rfl
theorem depth_str {x : Str} : T.depth (.str x) = 0 := by unfold T.depth; rfl
theorem depths_nil : T.depths [] = 0 := by unfold T.depths; rfl
theorem depths_cons {x : T} {xs : List T} : T.depths (x :: xs) = max (T.depth x) (T.depths xs) := by conv => lhs; unfold T.depths
theorem eqT_tup {xs ys : List T} : eqT (.tup xs) (.tup ys) = eqTs xs ys := by conv => lhs; unfold eqT
theorem eqT_str {x y : Str} : eqT (.str x) (.str y) = (x == y) := by unfold eqT; rfl
theorem eqT_int {x y : Int} : eqT (.int x) (.int y) = (x == y) := by unfold eqT; rfl
theorem eqT_bl {x y : Bool} : eqT (.bl x) (.bl y) = (x == y) := by unfold eqT; rfl
theorem eqT_bi {x : Bool} {y : Int} : eqT (.bl x) (.int y) = ((if x then 1 else 0) == y) := by unfold eqT; rfl
theorem eqT_ib {x : Int} {y : Bool} : eqT (.int x) (.bl y) = (x == (if y then 1 else 0)) := by unfold eqT; rfl
theorem eqT_nn : eqT .non .non = true := by unfold eqT; rfl
theorem eqTs_nil : eqTs [] [] = true := by unfold eqTs; rfl
theorem eqTs_nc {y : T} {ys : List T} : eqTs [] (y :: ys) = false := by unfold eqTs; rfl
theorem eqTs_cn {y : T} {ys : List T} : eqTs (y :: ys) [] = false := by unfold eqTs; rfl
theorem eqTs_cons {x y : T} {xs ys : List T} : eqTs (x :: xs) (y :: ys) = (eqT x y && eqTs xs ys) := by conv => lhs; unfold eqTs
mutual
theorem eqT_refl : ∀ x : T, x.pur = true → eqT x x = true
  | .non, _ => eqT_nn
  | .bl b, _ => by rw [eqT_bl]; simp
  | .int b, _ => by rw [eqT_int]; simp
  | .str b, _ => by rw [eqT_str]; simp
  | .adr _, h => by rw [pur_adr] at h; cases h
  | .fl _, h => by rw [pur_fl] at h; cases h
  | .tup xs, h => by rw [eqT_tup]; exact eqTs_refl xs (by rw [← pur_tup]; exact h)
theorem eqTs_refl : ∀ xs : List T, T.purs xs = true → eqTs xs xs = true
  | [], _ => eqTs_nil
  | x :: xs, h => by
    rw [purs_cons, Bool.and_eq_true] at h
    rw [eqTs_cons, eqT_refl x h.1, eqTs_refl xs h.2]; rfl
end
abbrev pairT (xs ys : List T) (j : Nat) : Bool := eqT (xs.getD j .non) (ys.getD j .non)
theorem eqTs_range : ∀ xs ys : List T, ((List.range (min xs.length ys.length)).all (pairT xs ys) && xs.length == ys.length) = eqTs xs ys
  | [], [] => by rw [eqTs_nil]; rfl
  | [], _ :: _ => by rw [eqTs_nc]; simp
  | _ :: _, [] => by rw [eqTs_cn]; simp
  | x :: xs, y :: ys => by
    have ih := eqTs_range xs ys
    have e1 : min (x :: xs).length (y :: ys).length = min xs.length ys.length + 1 := by simp only [List.length_cons]; omega
    have e2 : ((x :: xs).length == (y :: ys).length) = (xs.length == ys.length) := by simp
    have e3 : (List.range (min xs.length ys.length + 1)).all (pairT (x :: xs) (y :: ys)) = (eqT x y && (List.range (min xs.length ys.length)).all (pairT xs ys)) := by
      rw [List.range_succ_eq_map, List.all_cons, List.all_map]
      first | rfl | simp [pairT, Function.comp_def]
    rw [e1, e2, e3, eqTs_cons, ← ih, Bool.and_assoc]
theorem eqTs_len {xs ys : List T} (h : xs.length = ys.length) : (List.range xs.length).all (pairT xs ys) = eqTs xs ys := by
  have := eqTs_range xs ys
  rw [← h, Nat.min_self] at this
  simpa using this
theorem eqTs_other {xs ys : List T} (h : xs.length ≠ ys.length) : eqTs xs ys = false := by
  rw [← eqTs_range xs ys]
  simp [h]
theorem depth_get : ∀ {xs : List T} {i : Nat} {x : T}, xs[i]? = some x → x.depth ≤ T.depths xs
  | [], _, _, h => by simp at h
  | y :: ys, 0, x, h => by simp at h; subst h; rw [depths_cons]; omega
  | y :: ys, i + 1, x, h => by
    have := depth_get (xs := ys) (i := i) (x := x) (by simpa using h)
    rw [depths_cons]; omega
section
variable {X : Cx} {pins : List (Addr × Obj)} {σ : L2.St} {H : Hp} {s : Shared}
mutual
theorem RT.inj (I : Inv X pins σ H s) : ∀ (x y : T) {v : V}, RT (zx X) H x v → RT (zx X) H y v → x.pur = true → y.pur = true → x = y
  | .adr a, _, _, _, _, h, _ => by rw [pur_adr] at h; cases h
  | .fl a, _, _, _, _, h, _ => by rw [pur_fl] at h; cases h
  | _, .adr a, _, _, _, _, h => by rw [pur_adr] at h; cases h
  | _, .fl a, _, _, _, _, h => by rw [pur_fl] at h; cases h
  | .tup xs, .tup ys, v, hx, hy, p1, p2 => by
    rw [rt_tup] at hx hy
    obtain ⟨a, vs, rfl, h1, h2⟩ := hx
    obtain ⟨b, us, e, g1, g2⟩ := hy
    injection e with e
    subst e
    rw [I.tuple_inj h1.sqT g1.sqT] at h2
    rw [pur_tup] at p1 p2
    rw [RTs.inj I xs ys h2 g2 p1 p2]
  | .non, .non, v, hx, hy, _, _ => rfl
  | .non, .bl b, v, hx, hy, _, _ => by rw [rt_non] at hx; rw [rt_bl] at hy; rw [hx] at hy; cases hy
  | .non, .int b, v, hx, hy, _, _ => by rw [rt_non] at hx; rw [rt_int] at hy; rw [hx] at hy; cases hy
  | .non, .str b, v, hx, hy, _, _ => by rw [rt_non] at hx; rw [rt_str] at hy; rw [hx] at hy; cases hy
  | .non, .tup b, v, hx, hy, _, _ => by rw [rt_non] at hx; rw [rt_tup] at hy; obtain ⟨a, vs, e, _⟩ := hy; rw [hx] at e; cases e
  | .bl a, .non, v, hx, hy, _, _ => by rw [rt_bl] at hx; rw [rt_non] at hy; rw [hx] at hy; cases hy
  | .bl a, .bl b, v, hx, hy, _, _ => by rw [rt_bl] at hx hy; rw [hx] at hy; cases hy; rfl
  | .bl a, .int b, v, hx, hy, _, _ => by rw [rt_bl] at hx; rw [rt_int] at hy; rw [hx] at hy; cases hy
  | .bl a, .str b, v, hx, hy, _, _ => by rw [rt_bl] at hx; rw [rt_str] at hy; rw [hx] at hy; cases hy
  | .bl a, .tup b, v, hx, hy, _, _ => by rw [rt_bl] at hx; rw [rt_tup] at hy; obtain ⟨a, vs, e, _⟩ := hy; rw [hx] at e; cases e
  | .int a, .non, v, hx, hy, _, _ => by rw [rt_int] at hx; rw [rt_non] at hy; rw [hx] at hy; cases hy
  | .int a, .bl b, v, hx, hy, _, _ => by rw [rt_int] at hx; rw [rt_bl] at hy; rw [hx] at hy; cases hy
  | .int a, .int b, v, hx, hy, _, _ => by rw [rt_int] at hx hy; rw [hx] at hy; cases hy; rfl
  | .int a, .str b, v, hx, hy, _, _ => by rw [rt_int] at hx; rw [rt_str] at hy; rw [hx] at hy; cases hy
  | .int a, .tup b, v, hx, hy, _, _ => by rw [rt_int] at hx; rw [rt_tup] at hy; obtain ⟨a, vs, e, _⟩ := hy; rw [hx] at e; cases e
  | .str a, .non, v, hx, hy, _, _ => by rw [rt_str] at hx; rw [rt_non] at hy; rw [hx] at hy; cases hy
  | .str a, .bl b, v, hx, hy, _, _ => by rw [rt_str] at hx; rw [rt_bl] at hy; rw [hx] at hy; cases hy
  | .str a, .int b, v, hx, hy, _, _ => by rw [rt_str] at hx; rw [rt_int] at hy; rw [hx] at hy; cases hy
  | .str a, .str b, v, hx, hy, _, _ => by rw [rt_str] at hx hy; rw [hx] at hy; cases hy; rfl
  | .str a, .tup b, v, hx, hy, _, _ => by rw [rt_str] at hx; rw [rt_tup] at hy; obtain ⟨a, vs, e, _⟩ := hy; rw [hx] at e; cases e
  | .tup a, .non, v, hx, hy, _, _ => by rw [rt_tup] at hx; rw [rt_non] at hy; obtain ⟨a, vs, e, _⟩ := hx; rw [hy] at e; cases e
  | .tup a, .bl b, v, hx, hy, _, _ => by rw [rt_tup] at hx; rw [rt_bl] at hy; obtain ⟨a, vs, e, _⟩ := hx; rw [hy] at e; cases e
  | .tup a, .int b, v, hx, hy, _, _ => by rw [rt_tup] at hx; rw [rt_int] at hy; obtain ⟨a, vs, e, _⟩ := hx; rw [hy] at e; cases e
  | .tup a, .str b, v, hx, hy, _, _ => by rw [rt_tup] at hx; rw [rt_str] at hy; obtain ⟨a, vs, e, _⟩ := hx; rw [hy] at e; cases e
theorem RTs.inj (I : Inv X pins σ H s) : ∀ (xs ys : List T) {vs : List V}, RTs (zx X) H xs vs → RTs (zx X) H ys vs → T.purs xs = true → T.purs ys = true → xs = ys
  | [], [], _, _, _, _, _ => rfl
  | [], y :: ys, vs, hx, hy, _, _ => by rw [rts_nil] at hx; rw [rts_cons] at hy; obtain ⟨v, r, e, _⟩ := hy; rw [hx] at e; cases e
  | x :: xs, [], vs, hx, hy, _, _ => by rw [rts_nil] at hy; rw [rts_cons] at hx; obtain ⟨v, r, e, _⟩ := hx; rw [hy] at e; cases e
  | x :: xs, y :: ys, vs, hx, hy, p1, p2 => by
    rw [rts_cons] at hx hy
    obtain ⟨v, r, rfl, h1, h2⟩ := hx
    obtain ⟨v', r', e, g1, g2⟩ := hy
    injection e with e1 e2
    subst e1; subst e2
    rw [purs_cons, Bool.and_eq_true] at p1 p2
    rw [RT.inj I x y h1 g1 p1.1 p2.1, RTs.inj I xs ys h2 g2 p1.2 p2.2]
end
mutual
theorem eqAt_T (I : Inv X pins σ H s) : ∀ (x y : T) (A : Around) (vx vy : V) (u1 u2 : Value), RT (zx X) H x vx → RT (zx X) H y vy → RelV vx u1 → RelV vy u2 → x.pur = true → y.pur = true → A.units + min x.depth y.depth < cLine →
    SeqAt.EqAt A s u1 u2 (eqT x y)
  | .adr a, _, _, _, _, _, _, _, _, _, _, h, _, _ => by rw [pur_adr] at h; cases h
  | .fl a, _, _, _, _, _, _, _, _, _, _, h, _, _ => by rw [pur_fl] at h; cases h
  | _, .adr a, _, _, _, _, _, _, _, _, _, _, h, _ => by rw [pur_adr] at h; cases h
  | _, .fl a, _, _, _, _, _, _, _, _, _, _, h, _ => by rw [pur_fl] at h; cases h
  | .non, .non, A, vx, vy, u1, u2, hx, hy, r1, r2, p1, p2, hu => by
    rw [rt_non] at hx; subst hx; cases r1
    rw [rt_non] at hy; subst hy; cases r2
    have hu : A.units < cLine := by omega
    exact SeqAt.EqAt.same _
  | .non, .bl q, A, vx, vy, u1, u2, hx, hy, r1, r2, p1, p2, hu => by
    rw [rt_non] at hx; subst hx; cases r1
    rw [rt_bl] at hy; subst hy; cases r2
    have hu : A.units < cLine := by omega
    exact SeqAt.EqAt.none_bool q
  | .non, .int q, A, vx, vy, u1, u2, hx, hy, r1, r2, p1, p2, hu => by
    rw [rt_non] at hx; subst hx; cases r1
    rw [rt_int] at hy; subst hy; obtain ⟨u, rfl⟩ := r2
    have hu : A.units < cLine := by omega
    exact SeqAt.EqAt.none_int q u
  | .non, .str q, A, vx, vy, u1, u2, hx, hy, r1, r2, p1, p2, hu => by
    rw [rt_non] at hx; subst hx; cases r1
    rw [rt_str] at hy; subst hy; obtain ⟨u, rfl⟩ := r2
    have hu : A.units < cLine := by omega
    exact SeqAt.EqAt.none_str q u
  | .non, .tup ys, A, vx, vy, u1, u2, hx, hy, r1, r2, p1, p2, hu => by
    rw [rt_non] at hx; subst hx; cases r1
    rw [rt_tup] at hy; obtain ⟨ua, uv, rfl, u1, u2⟩ := hy; cases r2; obtain ⟨ui, ur, up, _⟩ := I.tuple u1.sqT
    have hu : A.units < cLine := by omega
    exact SeqAt.EqAt.none_tuple up hu
  | .bl p, .non, A, vx, vy, u1, u2, hx, hy, r1, r2, p1, p2, hu => by
    rw [rt_bl] at hx; subst hx; cases r1
    rw [rt_non] at hy; subst hy; cases r2
    have hu : A.units < cLine := by omega
    exact SeqAt.EqAt.bool_none p
  | .bl p, .bl q, A, vx, vy, u1, u2, hx, hy, r1, r2, p1, p2, hu => by
    rw [rt_bl] at hx; subst hx; cases r1
    rw [rt_bl] at hy; subst hy; cases r2
    have hu : A.units < cLine := by omega
    exact SeqAt.EqAt.bool_bool p q
  | .bl p, .int q, A, vx, vy, u1, u2, hx, hy, r1, r2, p1, p2, hu => by
    rw [rt_bl] at hx; subst hx; cases r1
    rw [rt_int] at hy; subst hy; obtain ⟨u, rfl⟩ := r2
    have hu : A.units < cLine := by omega
    exact SeqAt.EqAt.bool_int p q u
  | .bl p, .str q, A, vx, vy, u1, u2, hx, hy, r1, r2, p1, p2, hu => by
    rw [rt_bl] at hx; subst hx; cases r1
    rw [rt_str] at hy; subst hy; obtain ⟨u, rfl⟩ := r2
    have hu : A.units < cLine := by omega
    exact SeqAt.EqAt.bool_str p q u
  | .bl p, .tup ys, A, vx, vy, u1, u2, hx, hy, r1, r2, p1, p2, hu => by
    rw [rt_bl] at hx; subst hx; cases r1
    rw [rt_tup] at hy; obtain ⟨ua, uv, rfl, u1, u2⟩ := hy; cases r2; obtain ⟨ui, ur, up, _⟩ := I.tuple u1.sqT
    have hu : A.units < cLine := by omega
    exact SeqAt.EqAt.bool_tuple p up hu
  | .int p, .non, A, vx, vy, u1, u2, hx, hy, r1, r2, p1, p2, hu => by
    rw [rt_int] at hx; subst hx; obtain ⟨t, rfl⟩ := r1
    rw [rt_non] at hy; subst hy; cases r2
    have hu : A.units < cLine := by omega
    exact SeqAt.EqAt.int_none p t
  | .int p, .bl q, A, vx, vy, u1, u2, hx, hy, r1, r2, p1, p2, hu => by
    rw [rt_int] at hx; subst hx; obtain ⟨t, rfl⟩ := r1
    rw [rt_bl] at hy; subst hy; cases r2
    have hu : A.units < cLine := by omega
    exact SeqAt.EqAt.int_bool p t q
  | .int p, .int q, A, vx, vy, u1, u2, hx, hy, r1, r2, p1, p2, hu => by
    rw [rt_int] at hx; subst hx; obtain ⟨t, rfl⟩ := r1
    rw [rt_int] at hy; subst hy; obtain ⟨u, rfl⟩ := r2
    have hu : A.units < cLine := by omega
    exact SeqAt.EqAt.int_int p t q u
  | .int p, .str q, A, vx, vy, u1, u2, hx, hy, r1, r2, p1, p2, hu => by
    rw [rt_int] at hx; subst hx; obtain ⟨t, rfl⟩ := r1
    rw [rt_str] at hy; subst hy; obtain ⟨u, rfl⟩ := r2
    have hu : A.units < cLine := by omega
    exact SeqAt.EqAt.int_str p t q u
  | .int p, .tup ys, A, vx, vy, u1, u2, hx, hy, r1, r2, p1, p2, hu => by
    rw [rt_int] at hx; subst hx; obtain ⟨t, rfl⟩ := r1
    rw [rt_tup] at hy; obtain ⟨ua, uv, rfl, u1, u2⟩ := hy; cases r2; obtain ⟨ui, ur, up, _⟩ := I.tuple u1.sqT
    have hu : A.units < cLine := by omega
    exact SeqAt.EqAt.int_tuple p t up hu
  | .str p, .non, A, vx, vy, u1, u2, hx, hy, r1, r2, p1, p2, hu => by
    rw [rt_str] at hx; subst hx; obtain ⟨t, rfl⟩ := r1
    rw [rt_non] at hy; subst hy; cases r2
    have hu : A.units < cLine := by omega
    exact SeqAt.EqAt.str_none p t
  | .str p, .bl q, A, vx, vy, u1, u2, hx, hy, r1, r2, p1, p2, hu => by
    rw [rt_str] at hx; subst hx; obtain ⟨t, rfl⟩ := r1
    rw [rt_bl] at hy; subst hy; cases r2
    have hu : A.units < cLine := by omega
    exact SeqAt.EqAt.str_bool p t q
  | .str p, .int q, A, vx, vy, u1, u2, hx, hy, r1, r2, p1, p2, hu => by
    rw [rt_str] at hx; subst hx; obtain ⟨t, rfl⟩ := r1
    rw [rt_int] at hy; subst hy; obtain ⟨u, rfl⟩ := r2
    have hu : A.units < cLine := by omega
    exact SeqAt.EqAt.str_int p t q u
  | .str p, .str q, A, vx, vy, u1, u2, hx, hy, r1, r2, p1, p2, hu => by
    rw [rt_str] at hx; subst hx; obtain ⟨t, rfl⟩ := r1
    rw [rt_str] at hy; subst hy; obtain ⟨u, rfl⟩ := r2
    have hu : A.units < cLine := by omega
    exact SeqAt.EqAt.str_str p t q u
  | .str p, .tup ys, A, vx, vy, u1, u2, hx, hy, r1, r2, p1, p2, hu => by
    rw [rt_str] at hx; subst hx; obtain ⟨t, rfl⟩ := r1
    rw [rt_tup] at hy; obtain ⟨ua, uv, rfl, u1, u2⟩ := hy; cases r2; obtain ⟨ui, ur, up, _⟩ := I.tuple u1.sqT
    have hu : A.units < cLine := by omega
    exact SeqAt.EqAt.str_tuple p t up hu
  | .tup xs, .non, A, vx, vy, u1, u2, hx, hy, r1, r2, p1, p2, hu => by
    rw [rt_tup] at hx; obtain ⟨ta, tv, rfl, t1, t2⟩ := hx; cases r1; obtain ⟨ti, tr, tp, _⟩ := I.tuple t1.sqT
    rw [rt_non] at hy; subst hy; cases r2
    have hu : A.units < cLine := by omega
    exact SeqAt.EqAt.tuple_none tp hu
  | .tup xs, .bl q, A, vx, vy, u1, u2, hx, hy, r1, r2, p1, p2, hu => by
    rw [rt_tup] at hx; obtain ⟨ta, tv, rfl, t1, t2⟩ := hx; cases r1; obtain ⟨ti, tr, tp, _⟩ := I.tuple t1.sqT
    rw [rt_bl] at hy; subst hy; cases r2
    have hu : A.units < cLine := by omega
    exact SeqAt.EqAt.tuple_bool q tp hu
  | .tup xs, .int q, A, vx, vy, u1, u2, hx, hy, r1, r2, p1, p2, hu => by
    rw [rt_tup] at hx; obtain ⟨ta, tv, rfl, t1, t2⟩ := hx; cases r1; obtain ⟨ti, tr, tp, _⟩ := I.tuple t1.sqT
    rw [rt_int] at hy; subst hy; obtain ⟨u, rfl⟩ := r2
    have hu : A.units < cLine := by omega
    exact SeqAt.EqAt.tuple_int q u tp hu
  | .tup xs, .str q, A, vx, vy, u1, u2, hx, hy, r1, r2, p1, p2, hu => by
    rw [rt_tup] at hx; obtain ⟨ta, tv, rfl, t1, t2⟩ := hx; cases r1; obtain ⟨ti, tr, tp, _⟩ := I.tuple t1.sqT
    rw [rt_str] at hy; subst hy; obtain ⟨u, rfl⟩ := r2
    have hu : A.units < cLine := by omega
    exact SeqAt.EqAt.tuple_str q u tp hu
  | .tup xs, .tup ys, A, vx, vy, u1, u2, hx, hy, r1, r2, p1, p2, hu => by
    have hx0 := hx
    have hy0 := hy
    rw [rt_tup] at hx hy
    obtain ⟨a, vs, rfl, h1, h2⟩ := hx
    obtain ⟨b, us, rfl, g1, g2⟩ := hy
    cases r1; cases r2
    obtain ⟨its, ra, pa, _⟩ := I.tuple h1.sqT
    obtain ⟨its2, rb, pb, _⟩ := I.tuple g1.sqT
    have l1 := h2.length
    have l2 := g2.length
    have l3 := ra.length
    have l4 := rb.length
    rw [depth_tup, depth_tup] at hu
    by_cases hab : a = b
    · subst hab
      have e : T.tup xs = T.tup ys := RT.inj I _ _ hx0 hy0 p1 p2
      rw [e, eqT_refl _ p2]
      exact SeqAt.EqAt.same _
    · rw [eqT_tup, ← eqTs_range xs ys]
      have n1 : its.toArray.size = xs.length := by rw [List.size_toArray]; omega
      have n2 : its2.toArray.size = ys.length := by rw [List.size_toArray]; omega
      rw [← n1, ← n2]
      rw [pur_tup] at p1 p2
      refine SeqAt.EqAt.of_refs hab (SeqAt.RcAt.tuples pa pb (by omega) fun j j1 j2 => ?_)
      have := eqAt_Ts I xs ys A.in1 vs us its its2 h2 g2 ra rb p1 p2 (by show A.units + 1 + _ < _; omega) j (by simpa using j1) (by simpa using j2)
      simpa using this
theorem eqAt_Ts (I : Inv X pins σ H s) : ∀ (xs ys : List T) (A : Around) (vs us : List V) (is js : List Value), RTs (zx X) H xs vs → RTs (zx X) H ys us → Vals vs is → Vals us js → T.purs xs = true → T.purs ys = true → A.units + min (T.depths xs) (T.depths ys) < cLine →
    ∀ j (h1 : j < is.length) (h2 : j < js.length), SeqAt.EqAt A s is[j] js[j] (pairT xs ys j)
  | [], _, A, vs, us, is, js, hx, hy, r1, r2, _, _, _, j, h1, h2 => by
    rw [rts_nil] at hx; subst hx; cases r1; exact absurd h1 (Nat.not_lt_zero _)
  | x :: xs, [], A, vs, us, is, js, hx, hy, r1, r2, _, _, _, j, h1, h2 => by
    rw [rts_nil] at hy; subst hy; cases r2; exact absurd h2 (Nat.not_lt_zero _)
  | x :: xs, y :: ys, A, vs, us, is, js, hx, hy, r1, r2, p1, p2, hu, j, h1, h2 => by
    rw [rts_cons] at hx hy
    obtain ⟨v, r, rfl, a1, a2⟩ := hx
    obtain ⟨v', r', rfl, b1, b2⟩ := hy
    rw [purs_cons, Bool.and_eq_true] at p1 p2
    rw [depths_cons, depths_cons] at hu
    cases r1 with
    | cons q1 t1 =>
      cases r2 with
      | cons q2 t2 =>
        cases j with
        | zero => exact eqAt_T I x y A _ _ _ _ a1 b1 q1 q2 p1.1 p2.1 (by omega)
        | succ j => exact eqAt_Ts I xs ys A _ _ _ _ a2 b2 t1 t2 p1.2 p2.2 (by omega) j (Nat.lt_of_succ_lt_succ h1) (Nat.lt_of_succ_lt_succ h2)
end
theorem rcAt_T (I : Inv X pins σ H s) : ∀ (x y : T) (A : Around) (vx vy : V) (u1 u2 : Value), RT (zx X) H x vx → RT (zx X) H y vy → RelV vx u1 → RelV vy u2 → x.pur = true → y.pur = true → A.units + min x.depth y.depth < cLine →
    SeqAt.RcAt A s u1 u2 (eqT x y)
  | .adr a, _, _, _, _, _, _, _, _, _, _, h, _, _ => by rw [pur_adr] at h; cases h
  | .fl a, _, _, _, _, _, _, _, _, _, _, h, _, _ => by rw [pur_fl] at h; cases h
  | _, .adr a, _, _, _, _, _, _, _, _, _, _, h, _ => by rw [pur_adr] at h; cases h
  | _, .fl a, _, _, _, _, _, _, _, _, _, _, h, _ => by rw [pur_fl] at h; cases h
  | .non, .non, A, vx, vy, u1, u2, hx, hy, r1, r2, p1, p2, hu => by
    rw [rt_non] at hx; subst hx; cases r1
    rw [rt_non] at hy; subst hy; cases r2
    have hu : A.units < cLine := by omega
    exact SeqAt.RcAt.none_none
  | .non, .bl q, A, vx, vy, u1, u2, hx, hy, r1, r2, p1, p2, hu => by
    rw [rt_non] at hx; subst hx; cases r1
    rw [rt_bl] at hy; subst hy; cases r2
    have hu : A.units < cLine := by omega
    exact SeqAt.RcAt.none_bool q
  | .non, .int q, A, vx, vy, u1, u2, hx, hy, r1, r2, p1, p2, hu => by
    rw [rt_non] at hx; subst hx; cases r1
    rw [rt_int] at hy; subst hy; obtain ⟨u, rfl⟩ := r2
    have hu : A.units < cLine := by omega
    exact SeqAt.RcAt.none_int q u
  | .non, .str q, A, vx, vy, u1, u2, hx, hy, r1, r2, p1, p2, hu => by
    rw [rt_non] at hx; subst hx; cases r1
    rw [rt_str] at hy; subst hy; obtain ⟨u, rfl⟩ := r2
    have hu : A.units < cLine := by omega
    exact SeqAt.RcAt.none_str q u
  | .non, .tup ys, A, vx, vy, u1, u2, hx, hy, r1, r2, p1, p2, hu => by
    rw [rt_non] at hx; subst hx; cases r1
    rw [rt_tup] at hy; obtain ⟨ua, uv, rfl, u1, u2⟩ := hy; cases r2; obtain ⟨ui, ur, up, _⟩ := I.tuple u1.sqT
    have hu : A.units < cLine := by omega
    exact SeqAt.RcAt.none_tuple up hu
  | .bl p, .non, A, vx, vy, u1, u2, hx, hy, r1, r2, p1, p2, hu => by
    rw [rt_bl] at hx; subst hx; cases r1
    rw [rt_non] at hy; subst hy; cases r2
    have hu : A.units < cLine := by omega
    exact SeqAt.RcAt.bool_none p
  | .bl p, .bl q, A, vx, vy, u1, u2, hx, hy, r1, r2, p1, p2, hu => by
    rw [rt_bl] at hx; subst hx; cases r1
    rw [rt_bl] at hy; subst hy; cases r2
    have hu : A.units < cLine := by omega
    exact SeqAt.RcAt.bool_bool p q
  | .bl p, .int q, A, vx, vy, u1, u2, hx, hy, r1, r2, p1, p2, hu => by
    rw [rt_bl] at hx; subst hx; cases r1
    rw [rt_int] at hy; subst hy; obtain ⟨u, rfl⟩ := r2
    have hu : A.units < cLine := by omega
    exact SeqAt.RcAt.bool_int p q u
  | .bl p, .str q, A, vx, vy, u1, u2, hx, hy, r1, r2, p1, p2, hu => by
    rw [rt_bl] at hx; subst hx; cases r1
    rw [rt_str] at hy; subst hy; obtain ⟨u, rfl⟩ := r2
    have hu : A.units < cLine := by omega
    exact SeqAt.RcAt.bool_str p q u
  | .bl p, .tup ys, A, vx, vy, u1, u2, hx, hy, r1, r2, p1, p2, hu => by
    rw [rt_bl] at hx; subst hx; cases r1
    rw [rt_tup] at hy; obtain ⟨ua, uv, rfl, u1, u2⟩ := hy; cases r2; obtain ⟨ui, ur, up, _⟩ := I.tuple u1.sqT
    have hu : A.units < cLine := by omega
    exact SeqAt.RcAt.bool_tuple p up hu
  | .int p, .non, A, vx, vy, u1, u2, hx, hy, r1, r2, p1, p2, hu => by
    rw [rt_int] at hx; subst hx; obtain ⟨t, rfl⟩ := r1
    rw [rt_non] at hy; subst hy; cases r2
    have hu : A.units < cLine := by omega
    exact SeqAt.RcAt.int_none p t
  | .int p, .bl q, A, vx, vy, u1, u2, hx, hy, r1, r2, p1, p2, hu => by
    rw [rt_int] at hx; subst hx; obtain ⟨t, rfl⟩ := r1
    rw [rt_bl] at hy; subst hy; cases r2
    have hu : A.units < cLine := by omega
    exact SeqAt.RcAt.int_bool p t q
  | .int p, .int q, A, vx, vy, u1, u2, hx, hy, r1, r2, p1, p2, hu => by
    rw [rt_int] at hx; subst hx; obtain ⟨t, rfl⟩ := r1
    rw [rt_int] at hy; subst hy; obtain ⟨u, rfl⟩ := r2
    have hu : A.units < cLine := by omega
    exact SeqAt.RcAt.int_int p t q u
  | .int p, .str q, A, vx, vy, u1, u2, hx, hy, r1, r2, p1, p2, hu => by
    rw [rt_int] at hx; subst hx; obtain ⟨t, rfl⟩ := r1
    rw [rt_str] at hy; subst hy; obtain ⟨u, rfl⟩ := r2
    have hu : A.units < cLine := by omega
    exact SeqAt.RcAt.int_str p t q u
  | .int p, .tup ys, A, vx, vy, u1, u2, hx, hy, r1, r2, p1, p2, hu => by
    rw [rt_int] at hx; subst hx; obtain ⟨t, rfl⟩ := r1
    rw [rt_tup] at hy; obtain ⟨ua, uv, rfl, u1, u2⟩ := hy; cases r2; obtain ⟨ui, ur, up, _⟩ := I.tuple u1.sqT
    have hu : A.units < cLine := by omega
    exact SeqAt.RcAt.int_tuple p t up hu
  | .str p, .non, A, vx, vy, u1, u2, hx, hy, r1, r2, p1, p2, hu => by
    rw [rt_str] at hx; subst hx; obtain ⟨t, rfl⟩ := r1
    rw [rt_non] at hy; subst hy; cases r2
    have hu : A.units < cLine := by omega
    exact SeqAt.RcAt.str_none p t
  | .str p, .bl q, A, vx, vy, u1, u2, hx, hy, r1, r2, p1, p2, hu => by
    rw [rt_str] at hx; subst hx; obtain ⟨t, rfl⟩ := r1
    rw [rt_bl] at hy; subst hy; cases r2
    have hu : A.units < cLine := by omega
    exact SeqAt.RcAt.str_bool p t q
  | .str p, .int q, A, vx, vy, u1, u2, hx, hy, r1, r2, p1, p2, hu => by
    rw [rt_str] at hx; subst hx; obtain ⟨t, rfl⟩ := r1
    rw [rt_int] at hy; subst hy; obtain ⟨u, rfl⟩ := r2
    have hu : A.units < cLine := by omega
    exact SeqAt.RcAt.str_int p t q u
  | .str p, .str q, A, vx, vy, u1, u2, hx, hy, r1, r2, p1, p2, hu => by
    rw [rt_str] at hx; subst hx; obtain ⟨t, rfl⟩ := r1
    rw [rt_str] at hy; subst hy; obtain ⟨u, rfl⟩ := r2
    have hu : A.units < cLine := by omega
    exact SeqAt.RcAt.str_str p t q u
  | .str p, .tup ys, A, vx, vy, u1, u2, hx, hy, r1, r2, p1, p2, hu => by
    rw [rt_str] at hx; subst hx; obtain ⟨t, rfl⟩ := r1
    rw [rt_tup] at hy; obtain ⟨ua, uv, rfl, u1, u2⟩ := hy; cases r2; obtain ⟨ui, ur, up, _⟩ := I.tuple u1.sqT
    have hu : A.units < cLine := by omega
    exact SeqAt.RcAt.str_tuple p t up hu
  | .tup xs, .non, A, vx, vy, u1, u2, hx, hy, r1, r2, p1, p2, hu => by
    rw [rt_tup] at hx; obtain ⟨ta, tv, rfl, t1, t2⟩ := hx; cases r1; obtain ⟨ti, tr, tp, _⟩ := I.tuple t1.sqT
    rw [rt_non] at hy; subst hy; cases r2
    have hu : A.units < cLine := by omega
    exact SeqAt.RcAt.tuple_none tp hu
  | .tup xs, .bl q, A, vx, vy, u1, u2, hx, hy, r1, r2, p1, p2, hu => by
    rw [rt_tup] at hx; obtain ⟨ta, tv, rfl, t1, t2⟩ := hx; cases r1; obtain ⟨ti, tr, tp, _⟩ := I.tuple t1.sqT
    rw [rt_bl] at hy; subst hy; cases r2
    have hu : A.units < cLine := by omega
    exact SeqAt.RcAt.tuple_bool q tp hu
  | .tup xs, .int q, A, vx, vy, u1, u2, hx, hy, r1, r2, p1, p2, hu => by
    rw [rt_tup] at hx; obtain ⟨ta, tv, rfl, t1, t2⟩ := hx; cases r1; obtain ⟨ti, tr, tp, _⟩ := I.tuple t1.sqT
    rw [rt_int] at hy; subst hy; obtain ⟨u, rfl⟩ := r2
    have hu : A.units < cLine := by omega
    exact SeqAt.RcAt.tuple_int q u tp hu
  | .tup xs, .str q, A, vx, vy, u1, u2, hx, hy, r1, r2, p1, p2, hu => by
    rw [rt_tup] at hx; obtain ⟨ta, tv, rfl, t1, t2⟩ := hx; cases r1; obtain ⟨ti, tr, tp, _⟩ := I.tuple t1.sqT
    rw [rt_str] at hy; subst hy; obtain ⟨u, rfl⟩ := r2
    have hu : A.units < cLine := by omega
    exact SeqAt.RcAt.tuple_str q u tp hu
  | .tup xs, .tup ys, A, vx, vy, u1, u2, hx, hy, r1, r2, p1, p2, hu => by
    rw [rt_tup] at hx hy
    obtain ⟨a, vs, rfl, h1, h2⟩ := hx
    obtain ⟨b, us, rfl, g1, g2⟩ := hy
    cases r1; cases r2
    obtain ⟨its, ra, pa, _⟩ := I.tuple h1.sqT
    obtain ⟨its2, rb, pb, _⟩ := I.tuple g1.sqT
    have l1 := h2.length
    have l2 := g2.length
    have l3 := ra.length
    have l4 := rb.length
    rw [depth_tup, depth_tup] at hu
    rw [eqT_tup, ← eqTs_range xs ys]
    have n1 : its.toArray.size = xs.length := by rw [List.size_toArray]; omega
    have n2 : its2.toArray.size = ys.length := by rw [List.size_toArray]; omega
    rw [← n1, ← n2]
    rw [pur_tup] at p1 p2
    refine SeqAt.RcAt.tuples pa pb (by omega) fun j j1 j2 => ?_
    have := eqAt_Ts I xs ys A.in1 vs us its its2 h2 g2 ra rb p1 p2 (by show A.units + 1 + _ < _; omega) j (by simpa using j1) (by simpa using j2)
    simpa using this
theorem rcNeAt_T (I : Inv X pins σ H s) : ∀ (x y : T) (A : Around) (vx vy : V) (u1 u2 : Value), RT (zx X) H x vx → RT (zx X) H y vy → RelV vx u1 → RelV vy u2 → x.pur = true → y.pur = true → A.units + min x.depth y.depth < cLine →
    SeqAt.RcNeAt A s u1 u2 (!eqT x y)
  | .adr a, _, _, _, _, _, _, _, _, _, _, h, _, _ => by rw [pur_adr] at h; cases h
  | .fl a, _, _, _, _, _, _, _, _, _, _, h, _, _ => by rw [pur_fl] at h; cases h
  | _, .adr a, _, _, _, _, _, _, _, _, _, _, h, _ => by rw [pur_adr] at h; cases h
  | _, .fl a, _, _, _, _, _, _, _, _, _, _, h, _ => by rw [pur_fl] at h; cases h
  | .non, .non, A, vx, vy, u1, u2, hx, hy, r1, r2, p1, p2, hu => by
    rw [rt_non] at hx; subst hx; cases r1
    rw [rt_non] at hy; subst hy; cases r2
    have hu : A.units < cLine := by omega
    exact SeqAt.RcNeAt.none_none
  | .non, .bl q, A, vx, vy, u1, u2, hx, hy, r1, r2, p1, p2, hu => by
    rw [rt_non] at hx; subst hx; cases r1
    rw [rt_bl] at hy; subst hy; cases r2
    have hu : A.units < cLine := by omega
    exact SeqAt.RcNeAt.none_bool q
  | .non, .int q, A, vx, vy, u1, u2, hx, hy, r1, r2, p1, p2, hu => by
    rw [rt_non] at hx; subst hx; cases r1
    rw [rt_int] at hy; subst hy; obtain ⟨u, rfl⟩ := r2
    have hu : A.units < cLine := by omega
    exact SeqAt.RcNeAt.none_int q u
  | .non, .str q, A, vx, vy, u1, u2, hx, hy, r1, r2, p1, p2, hu => by
    rw [rt_non] at hx; subst hx; cases r1
    rw [rt_str] at hy; subst hy; obtain ⟨u, rfl⟩ := r2
    have hu : A.units < cLine := by omega
    exact SeqAt.RcNeAt.none_str q u
  | .non, .tup ys, A, vx, vy, u1, u2, hx, hy, r1, r2, p1, p2, hu => by
    rw [rt_non] at hx; subst hx; cases r1
    rw [rt_tup] at hy; obtain ⟨ua, uv, rfl, u1, u2⟩ := hy; cases r2; obtain ⟨ui, ur, up, _⟩ := I.tuple u1.sqT
    have hu : A.units < cLine := by omega
    exact SeqAt.RcNeAt.none_tuple up hu
  | .bl p, .non, A, vx, vy, u1, u2, hx, hy, r1, r2, p1, p2, hu => by
    rw [rt_bl] at hx; subst hx; cases r1
    rw [rt_non] at hy; subst hy; cases r2
    have hu : A.units < cLine := by omega
    exact SeqAt.RcNeAt.bool_none p
  | .bl p, .bl q, A, vx, vy, u1, u2, hx, hy, r1, r2, p1, p2, hu => by
    rw [rt_bl] at hx; subst hx; cases r1
    rw [rt_bl] at hy; subst hy; cases r2
    have hu : A.units < cLine := by omega
    exact SeqAt.RcNeAt.bool_bool p q
  | .bl p, .int q, A, vx, vy, u1, u2, hx, hy, r1, r2, p1, p2, hu => by
    rw [rt_bl] at hx; subst hx; cases r1
    rw [rt_int] at hy; subst hy; obtain ⟨u, rfl⟩ := r2
    have hu : A.units < cLine := by omega
    exact SeqAt.RcNeAt.bool_int p q u
  | .bl p, .str q, A, vx, vy, u1, u2, hx, hy, r1, r2, p1, p2, hu => by
    rw [rt_bl] at hx; subst hx; cases r1
    rw [rt_str] at hy; subst hy; obtain ⟨u, rfl⟩ := r2
    have hu : A.units < cLine := by omega
    exact SeqAt.RcNeAt.bool_str p q u
  | .bl p, .tup ys, A, vx, vy, u1, u2, hx, hy, r1, r2, p1, p2, hu => by
    rw [rt_bl] at hx; subst hx; cases r1
    rw [rt_tup] at hy; obtain ⟨ua, uv, rfl, u1, u2⟩ := hy; cases r2; obtain ⟨ui, ur, up, _⟩ := I.tuple u1.sqT
    have hu : A.units < cLine := by omega
    exact SeqAt.RcNeAt.bool_tuple p up hu
  | .int p, .non, A, vx, vy, u1, u2, hx, hy, r1, r2, p1, p2, hu => by
    rw [rt_int] at hx; subst hx; obtain ⟨t, rfl⟩ := r1
    rw [rt_non] at hy; subst hy; cases r2
    have hu : A.units < cLine := by omega
    exact SeqAt.RcNeAt.int_none p t
  | .int p, .bl q, A, vx, vy, u1, u2, hx, hy, r1, r2, p1, p2, hu => by
    rw [rt_int] at hx; subst hx; obtain ⟨t, rfl⟩ := r1
    rw [rt_bl] at hy; subst hy; cases r2
    have hu : A.units < cLine := by omega
    exact SeqAt.RcNeAt.int_bool p t q
  | .int p, .int q, A, vx, vy, u1, u2, hx, hy, r1, r2, p1, p2, hu => by
    rw [rt_int] at hx; subst hx; obtain ⟨t, rfl⟩ := r1
    rw [rt_int] at hy; subst hy; obtain ⟨u, rfl⟩ := r2
    have hu : A.units < cLine := by omega
    exact SeqAt.RcNeAt.int_int p t q u
  | .int p, .str q, A, vx, vy, u1, u2, hx, hy, r1, r2, p1, p2, hu => by
    rw [rt_int] at hx; subst hx; obtain ⟨t, rfl⟩ := r1
    rw [rt_str] at hy; subst hy; obtain ⟨u, rfl⟩ := r2
    have hu : A.units < cLine := by omega
    exact SeqAt.RcNeAt.int_str p t q u
  | .int p, .tup ys, A, vx, vy, u1, u2, hx, hy, r1, r2, p1, p2, hu => by
    rw [rt_int] at hx; subst hx; obtain ⟨t, rfl⟩ := r1
    rw [rt_tup] at hy; obtain ⟨ua, uv, rfl, u1, u2⟩ := hy; cases r2; obtain ⟨ui, ur, up, _⟩ := I.tuple u1.sqT
    have hu : A.units < cLine := by omega
    exact SeqAt.RcNeAt.int_tuple p t up hu
  | .str p, .non, A, vx, vy, u1, u2, hx, hy, r1, r2, p1, p2, hu => by
    rw [rt_str] at hx; subst hx; obtain ⟨t, rfl⟩ := r1
    rw [rt_non] at hy; subst hy; cases r2
    have hu : A.units < cLine := by omega
    exact SeqAt.RcNeAt.str_none p t
  | .str p, .bl q, A, vx, vy, u1, u2, hx, hy, r1, r2, p1, p2, hu => by
    rw [rt_str] at hx; subst hx; obtain ⟨t, rfl⟩ := r1
    rw [rt_bl] at hy; subst hy; cases r2
    have hu : A.units < cLine := by omega
    exact SeqAt.RcNeAt.str_bool p t q
  | .str p, .int q, A, vx, vy, u1, u2, hx, hy, r1, r2, p1, p2, hu => by
    rw [rt_str] at hx; subst hx; obtain ⟨t, rfl⟩ := r1
    rw [rt_int] at hy; subst hy; obtain ⟨u, rfl⟩ := r2
    have hu : A.units < cLine := by omega
    exact SeqAt.RcNeAt.str_int p t q u
  | .str p, .str q, A, vx, vy, u1, u2, hx, hy, r1, r2, p1, p2, hu => by
    rw [rt_str] at hx; subst hx; obtain ⟨t, rfl⟩ := r1
    rw [rt_str] at hy; subst hy; obtain ⟨u, rfl⟩ := r2
    have hu : A.units < cLine := by omega
    exact SeqAt.RcNeAt.str_str p t q u
  | .str p, .tup ys, A, vx, vy, u1, u2, hx, hy, r1, r2, p1, p2, hu => by
    rw [rt_str] at hx; subst hx; obtain ⟨t, rfl⟩ := r1
    rw [rt_tup] at hy; obtain ⟨ua, uv, rfl, u1, u2⟩ := hy; cases r2; obtain ⟨ui, ur, up, _⟩ := I.tuple u1.sqT
    have hu : A.units < cLine := by omega
    exact SeqAt.RcNeAt.str_tuple p t up hu
  | .tup xs, .non, A, vx, vy, u1, u2, hx, hy, r1, r2, p1, p2, hu => by
    rw [rt_tup] at hx; obtain ⟨ta, tv, rfl, t1, t2⟩ := hx; cases r1; obtain ⟨ti, tr, tp, _⟩ := I.tuple t1.sqT
    rw [rt_non] at hy; subst hy; cases r2
    have hu : A.units < cLine := by omega
    exact SeqAt.RcNeAt.tuple_none tp hu
  | .tup xs, .bl q, A, vx, vy, u1, u2, hx, hy, r1, r2, p1, p2, hu => by
    rw [rt_tup] at hx; obtain ⟨ta, tv, rfl, t1, t2⟩ := hx; cases r1; obtain ⟨ti, tr, tp, _⟩ := I.tuple t1.sqT
    rw [rt_bl] at hy; subst hy; cases r2
    have hu : A.units < cLine := by omega
    exact SeqAt.RcNeAt.tuple_bool q tp hu
  | .tup xs, .int q, A, vx, vy, u1, u2, hx, hy, r1, r2, p1, p2, hu => by
    rw [rt_tup] at hx; obtain ⟨ta, tv, rfl, t1, t2⟩ := hx; cases r1; obtain ⟨ti, tr, tp, _⟩ := I.tuple t1.sqT
    rw [rt_int] at hy; subst hy; obtain ⟨u, rfl⟩ := r2
    have hu : A.units < cLine := by omega
    exact SeqAt.RcNeAt.tuple_int q u tp hu
  | .tup xs, .str q, A, vx, vy, u1, u2, hx, hy, r1, r2, p1, p2, hu => by
    rw [rt_tup] at hx; obtain ⟨ta, tv, rfl, t1, t2⟩ := hx; cases r1; obtain ⟨ti, tr, tp, _⟩ := I.tuple t1.sqT
    rw [rt_str] at hy; subst hy; obtain ⟨u, rfl⟩ := r2
    have hu : A.units < cLine := by omega
    exact SeqAt.RcNeAt.tuple_str q u tp hu
  | .tup xs, .tup ys, A, vx, vy, u1, u2, hx, hy, r1, r2, p1, p2, hu => by
    rw [rt_tup] at hx hy
    obtain ⟨a, vs, rfl, h1, h2⟩ := hx
    obtain ⟨b, us, rfl, g1, g2⟩ := hy
    cases r1; cases r2
    obtain ⟨its, ra, pa, _⟩ := I.tuple h1.sqT
    obtain ⟨its2, rb, pb, _⟩ := I.tuple g1.sqT
    have l1 := h2.length
    have l2 := g2.length
    have l3 := ra.length
    have l4 := rb.length
    rw [depth_tup, depth_tup] at hu
    rw [eqT_tup, ← eqTs_range xs ys]
    have n1 : its.toArray.size = xs.length := by rw [List.size_toArray]; omega
    have n2 : its2.toArray.size = ys.length := by rw [List.size_toArray]; omega
    rw [← n1, ← n2]
    rw [pur_tup] at p1 p2
    refine SeqAt.RcNeAt.tuples pa pb (by omega) fun j j1 j2 => ?_
    have := eqAt_Ts I xs ys A.in1 vs us its its2 h2 g2 ra rb p1 p2 (by show A.units + 1 + _ < _; omega) j (by simpa using j1) (by simpa using j2)
    simpa using this
end
section
variable {X : Cx}
/-- == of trees, and of lists of trees -/
def rEqM (K : Zk) (neg : Bool) : R2 := fun x y H Q => ∃ b, Q (.bl (if neg then !b else b)) H ∧
  ((∃ d e, RT K H d x ∧ RT K H e y ∧ d.pur = true ∧ e.pur = true ∧ min d.depth e.depth ≤ 150 ∧ b = eqT d e) ∨
   (∃ a c ds es vs us, x = .ref a ∧ y = .ref c ∧ SqL K.K H a vs ∧ SqL K.K H c us ∧ RTs K H ds vs ∧ RTs K H es us ∧ T.purs ds = true ∧ T.purs es = true ∧ min (T.depths ds) (T.depths es) ≤ 149 ∧ b = eqTs ds es))
theorem op_eqM (hu : X.A.units + 200 < cLine) : OpR X (compareOp .Eq) (rEqM (zx X) false) := by
  intro pins s σ H x y v u Q I rx ry h
  obtain ⟨b, q, h⟩ := h
  rcases h with ⟨d, e, hd, he, p1, p2, hm, rfl⟩ | ⟨a, c, ds, es, vs, us, rfl, rfl, h1, g1, h2, g2, p1, p2, hm, rfl⟩
  · exact rcAt_T I d e X.A x y v u hd he rx ry p1 p2 (by omega) X.prog X.w _ _ ⟨.bl _, H, I, rfl, q⟩
  · cases rx; cases ry
    obtain ⟨its, ra, pa, _⟩ := I.list h1
    obtain ⟨its2, rb, pb, _⟩ := I.list g1
    have l1 := h2.length
    have l2 := g2.length
    have l3 := ra.length
    have l4 := rb.length
    have n1 : its.toArray.size = ds.length := by rw [List.size_toArray]; omega
    have n2 : its2.toArray.size = es.length := by rw [List.size_toArray]; omega
    by_cases hsz : ds.length = es.length
    · refine SeqAt.RcAt.lists (e := pairT ds es) pa.isList pb.isList (by omega) (by omega) (fun j j1 j2 => ?_) X.prog X.w _ _ ?_
      · have := eqAt_Ts I ds es X.A.in1 vs us its its2 h2 g2 ra rb p1 p2 (by show X.A.units + 1 + _ < _; omega) j (by simpa using j1) (by simpa using j2)
        simpa using this
      · rw [n1, eqTs_len hsz]
        exact ⟨.bl _, H, I, rfl, q⟩
    · refine SeqAt.RcAt.lists_lengths pa.isList pb.isList (by rw [n1, n2]; simpa using hsz) (by omega) X.prog X.w _ _ ?_
      rw [← eqTs_other hsz]
      exact ⟨.bl _, H, I, rfl, q⟩
theorem op_neM (hu : X.A.units + 200 < cLine) : OpR X (compareOp .NotEq) (rEqM (zx X) true) := by
  intro pins s σ H x y v u Q I rx ry h
  obtain ⟨b, q, h⟩ := h
  rcases h with ⟨d, e, hd, he, p1, p2, hm, rfl⟩ | ⟨a, c, ds, es, vs, us, rfl, rfl, h1, g1, h2, g2, p1, p2, hm, rfl⟩
  · exact rcNeAt_T I d e X.A x y v u hd he rx ry p1 p2 (by omega) X.prog X.w _ _ ⟨.bl _, H, I, rfl, q⟩
  · cases rx; cases ry
    obtain ⟨its, ra, pa, _⟩ := I.list h1
    obtain ⟨its2, rb, pb, _⟩ := I.list g1
    have l1 := h2.length
    have l2 := g2.length
    have l3 := ra.length
    have l4 := rb.length
    have n1 : its.toArray.size = ds.length := by rw [List.size_toArray]; omega
    have n2 : its2.toArray.size = es.length := by rw [List.size_toArray]; omega
    by_cases hsz : ds.length = es.length
    · refine SeqAt.RcNeAt.lists (e := pairT ds es) pa.isList pb.isList (by omega) (by omega) (fun j j1 j2 => ?_) X.prog X.w _ _ ?_
      · have := eqAt_Ts I ds es X.A.in1 vs us its its2 h2 g2 ra rb p1 p2 (by show X.A.units + 1 + _ < _; omega) j (by simpa using j1) (by simpa using j2)
        simpa using this
      · rw [n1, eqTs_len hsz]
        exact ⟨.bl _, H, I, rfl, q⟩
    · refine SeqAt.RcNeAt.lists_lengths pa.isList pb.isList (by rw [n1, n2]; simpa using hsz) (by omega) X.prog X.w _ _ ?_
      rw [← Bool.not_false, ← eqTs_other hsz]
      exact ⟨.bl _, H, I, rfl, q⟩
end

/-! ### reading the store -/
def lstAt (S : Sto) (a : Addr) : Option (List T) := match S a with
  | some (.lst xs) => some xs
  | some (.ro xs) => some xs
  | _ => none
theorem lstAt_of {S : Sto} {a : Addr} {xs : List T} (h : S a = some (.lst xs)) : lstAt S a = some xs := by unfold lstAt; rw [h]
theorem lstAt_ro {S : Sto} {a : Addr} {xs : List T} (h : S a = some (.ro xs)) : lstAt S a = some xs := by unfold lstAt; rw [h]
section
variable {K : Zk} {H : Hp} {S : Sto}
theorem RelS.list (rs : RelS K S H) {a : Addr} {xs : List T} (h : lstAt S a = some xs) : ∃ vs, SqL K.K H a vs ∧ RTs K H xs vs := by
  unfold lstAt at h
  split at h
  · rename_i ys e
    cases h
    obtain ⟨vs, h1, h2⟩ := rs a _ e
    exact ⟨vs, .inl (.inl h1), h2⟩
  · rename_i ys e
    cases h
    obtain ⟨vs, h1, h2⟩ := rs a _ e
    exact ⟨vs, .inl h1, h2⟩
  · cases h
end

/-! ### operators -/
def oAdd : O2 := fun x y S Q => match x, y with
  | .int i, .int j => Q (.int (i + j)) S
  | .str a, .str b => a.length + b.length ≤ sizeLine ∧ Q (.str (a ++ b)) S
  | .tup a, .tup b => a.length + b.length ≤ sizeLine ∧ Q (.tup (a ++ b)) S
  | .adr a, .adr b => ∃ xs ys, S a = some (.lst xs) ∧ S b = some (.lst ys) ∧ xs.length + ys.length ≤ sizeLine ∧ NewO S (.lst (xs ++ ys)) Q
  | _, _ => False
def oSub : O2 := fun x y S Q => match x, y with
  | .int i, .int j => Q (.int (i - j)) S
  | _, _ => False
def oMul : O2 := fun x y S Q => match x, y with
  | .int i, .int j => CMul i j ∧ Q (.int (i * j)) S
  | .adr a, .int k => ∃ xs, S a = some (.lst xs) ∧ -(2 ^ 63) ≤ k ∧ k < 2 ^ 63 ∧ xs.length * k.toNat ≤ sizeLine ∧ NewO S (.lst (List.replicate k.toNat xs).flatten) Q
  | _, _ => False
def oDiv : O2 := fun x y S Q => match x, y with
  | .int i, .int j => CDivW i j ∧ Q (.int (i / j)) S
  | _, _ => False
def oMod : O2 := fun x y S Q => match x, y with
  | .int i, .int j => 0 < j ∧ Q (.int (i % j)) S
  | _, _ => False
def oPow : O2 := fun x y S Q => match x, y with
  | .int i, .int j => CPow i j ∧ Q (.int (i ^ j.toNat)) S
  | _, _ => False
def oLt : O2 := fun x y S Q => match x, y with
  | .int i, .int j => Q (.bl (decide (i < j))) S
  | .str i, .str j => Q (.bl (decide (i.cps.toList < j.cps.toList))) S
  | _, _ => False
def oLe : O2 := fun x y S Q => match x, y with
  | .int i, .int j => Q (.bl (decide (i ≤ j))) S
  | _, _ => False
def oGt : O2 := fun x y S Q => match x, y with
  | .int i, .int j => Q (.bl (decide (j < i))) S
  | _, _ => False
def oGe : O2 := fun x y S Q => match x, y with
  | .int i, .int j => Q (.bl (decide (j ≤ i))) S
  | _, _ => False
def eqG (neg : Bool) (b : Bool) : Bool := if neg then !b else b
def oEqG (neg : Bool) : O2 := fun x y S Q => match x, y with
  | .adr a, .adr b => ∃ xs ys, lstAt S a = some xs ∧ lstAt S b = some ys ∧ T.purs xs = true ∧ T.purs ys = true ∧ min (T.depths xs) (T.depths ys) ≤ 149 ∧ Q (.bl (eqG neg (eqTs xs ys))) S
  | x, y => x.pur = true ∧ y.pur = true ∧ min x.depth y.depth ≤ 150 ∧ Q (.bl (eqG neg (eqT x y))) S
abbrev oEq : O2 := oEqG false
abbrev oNe : O2 := oEqG true
def oIsG (neg : Bool) : O2 := fun x y S Q => match y with
  | .non => Q (.bl (eqG neg (match x with | .non => true | _ => false))) S
  | _ => False
section
variable {X : Cx}
theorem o2_add : Op2 (zx X) (fun x y H Q => (rI0 fun i j => V.int (i + j)) x y H Q ∨ (∃ i j, x = V.str i ∧ y = V.str j ∧ i.length + j.length ≤ sizeLine ∧ Q (.str (i ++ j)) H) ∨ rCatF X.K x y H Q ∨ rCat x y H Q) oAdd := by
  intro x y v u S H H0 Q R e rs rx ry q k
  unfold oAdd at q
  split at q
  · rw [rt_int] at rx ry
    exact .inl ⟨_, _, rx, ry, k _ _ (.here e rs (by rw [rt_int]) q)⟩
  · rw [rt_str] at rx ry
    exact .inr (.inl ⟨_, _, rx, ry, q.1, k _ _ (.here e rs (by rw [rt_str]) q.2)⟩)
  · rename_i xs ys
    rw [rt_tup] at rx ry
    obtain ⟨a, vs, rfl, h1, h2⟩ := rx
    obtain ⟨b, us, rfl, g1, g2⟩ := ry
    have l1 := h2.length
    have l2 := g2.length
    refine .inr (.inr (.inl ⟨a, b, vs, us, rfl, rfl, h1.sqT, g1.sqT, by omega, fun z => ?_, fun _ z => ?_, fun _ _ p ob hp hd => ?_⟩))
    · subst z
      have : xs = [] := by cases xs with | nil => rfl | cons _ _ => simp at l1
      subst this
      exact k _ _ (.here e rs (by rw [rt_tup]; exact ⟨b, us, rfl, g1, by simpa using g2⟩) q.2)
    · subst z
      have : ys = [] := by cases ys with | nil => rfl | cons _ _ => simp at l2
      subst this
      exact k _ _ (.here e rs (by rw [rt_tup]; exact ⟨a, vs, rfl, h1, by simpa using h2⟩) q.2)
    · exact k _ _ (.tup e rs hp hd (h2.append g2) q.2)
  · rw [rt_adr] at rx ry
    obtain ⟨xs, ys, h1, h2, hz, q⟩ := q
    obtain ⟨vs, a1, a2⟩ := rs _ _ h1
    obtain ⟨us, b1, b2⟩ := rs _ _ h2
    have l1 := a2.length
    have l2 := b2.length
    exact .inr (.inr (.inr ⟨_, _, _, _, rx, ry, a1, b1, by omega, fun p hp => k _ _ (.lst e rs hp (a2.append b2) (q.at (rs.none_of hp)))⟩))
  · exact q.elim
theorem o2_sub : Op2 (zx X) (rI0 fun i j => V.int (i - j)) oSub := by
  intro x y v u S H H0 Q R e rs rx ry q k
  unfold oSub at q
  split at q
  · rw [rt_int] at rx ry
    exact ⟨_, _, rx, ry, k _ _ (.here e rs (by rw [rt_int]) q)⟩
  · exact q.elim
theorem o2_mul : Op2 (zx X) (fun x y H Q => (rI CMul fun i j => V.int (i * j)) x y H Q ∨ rRep x y H Q) oMul := by
  intro x y v u S H H0 Q R e rs rx ry q k
  unfold oMul at q
  split at q
  · rw [rt_int] at rx ry
    exact .inl ⟨_, _, rx, ry, q.1, k _ _ (.here e rs (by rw [rt_int]) q.2)⟩
  · rw [rt_adr] at rx
    rw [rt_int] at ry
    obtain ⟨xs, h1, b1, b2, hz, q⟩ := q
    obtain ⟨vs, a1, a2⟩ := rs _ _ h1
    have l1 := a2.length
    exact .inr ⟨_, _, vs, rx, ry, a1, b1, b2, by rw [← l1]; exact hz, fun p hp => k _ _ (.lst e rs hp (a2.flatrep _) (q.at (rs.none_of hp)))⟩
  · exact q.elim
theorem o2_div : Op2 (zx X) (rI CDivW fun i j => V.int (i / j)) oDiv := by
  intro x y v u S H H0 Q R e rs rx ry q k
  unfold oDiv at q
  split at q
  · rw [rt_int] at rx ry
    exact ⟨_, _, rx, ry, q.1, k _ _ (.here e rs (by rw [rt_int]) q.2)⟩
  · exact q.elim
theorem o2_mod : Op2 (zx X) (rI (fun _ j => 0 < j) fun i j => V.int (i % j)) oMod := by
  intro x y v u S H H0 Q R e rs rx ry q k
  unfold oMod at q
  split at q
  · rw [rt_int] at rx ry
    exact ⟨_, _, rx, ry, q.1, k _ _ (.here e rs (by rw [rt_int]) q.2)⟩
  · exact q.elim
theorem o2_pow : Op2 (zx X) (rI CPow fun i j => V.int (i ^ j.toNat)) oPow := by
  intro x y v u S H H0 Q R e rs rx ry q k
  unfold oPow at q
  split at q
  · rw [rt_int] at rx ry
    exact ⟨_, _, rx, ry, q.1, k _ _ (.here e rs (by rw [rt_int]) q.2)⟩
  · exact q.elim
theorem o2_lt : Op2 (zx X) (fun x y H Q => (rI0 fun i j => V.bl (decide (i < j))) x y H Q ∨ (∃ i j, x = V.str i ∧ y = V.str j ∧ Q (.bl (decide (i.cps.toList < j.cps.toList))) H)) oLt := by
  intro x y v u S H H0 Q R e rs rx ry q k
  unfold oLt at q
  split at q
  · rw [rt_int] at rx ry
    exact .inl ⟨_, _, rx, ry, k _ _ (.here e rs (by rw [rt_bl]) q)⟩
  · rw [rt_str] at rx ry
    exact .inr ⟨_, _, rx, ry, k _ _ (.here e rs (by rw [rt_bl]) q)⟩
  · exact q.elim
theorem o2_le : Op2 (zx X) (rI0 fun i j => V.bl (decide (i ≤ j))) oLe := by
  intro x y v u S H H0 Q R e rs rx ry q k
  unfold oLe at q
  split at q
  · rw [rt_int] at rx ry
    exact ⟨_, _, rx, ry, k _ _ (.here e rs (by rw [rt_bl]) q)⟩
  · exact q.elim
theorem o2_gt : Op2 (zx X) (rI0 fun i j => V.bl (decide (j < i))) oGt := by
  intro x y v u S H H0 Q R e rs rx ry q k
  unfold oGt at q
  split at q
  · rw [rt_int] at rx ry
    exact ⟨_, _, rx, ry, k _ _ (.here e rs (by rw [rt_bl]) q)⟩
  · exact q.elim
theorem o2_ge : Op2 (zx X) (rI0 fun i j => V.bl (decide (j ≤ i))) oGe := by
  intro x y v u S H H0 Q R e rs rx ry q k
  unfold oGe at q
  split at q
  · rw [rt_int] at rx ry
    exact ⟨_, _, rx, ry, k _ _ (.here e rs (by rw [rt_bl]) q)⟩
  · exact q.elim
theorem o2_eq {neg : Bool} : Op2 (zx X) (rEqM (zx X) neg) (oEqG neg) := by
  intro x y v u S H H0 Q R e rs rx ry q k
  unfold oEqG at q
  split at q
  · rw [rt_adr] at rx ry
    obtain ⟨xs, ys, h1, h2, p1, p2, hd, q⟩ := q
    obtain ⟨vs, a1, a2⟩ := rs.list h1
    obtain ⟨us, b1, b2⟩ := rs.list h2
    exact ⟨_, k _ _ (.here e rs (by rw [rt_bl]; rfl) q), .inr ⟨_, _, _, _, _, _, rx, ry, a1, b1, a2, b2, p1, p2, hd, rfl⟩⟩
  · obtain ⟨p1, p2, hd, q⟩ := q
    exact ⟨_, k _ _ (.here e rs (by rw [rt_bl]; rfl) q), .inl ⟨_, _, rx, ry, p1, p2, hd, rfl⟩⟩
theorem o2_is : Op2 (zx X) (fun x y H Q => y = .non ∧ Q (.bl (decide (x = .non))) H) (oIsG false) := by
  intro x y v u S H H0 Q R e rs rx ry q k
  unfold oIsG at q
  split at q
  · rw [rt_non] at ry
    refine ⟨ry, k _ _ (.here e rs ?_ q)⟩
    rw [rt_bl]
    cases x with
    | non => rw [rt_non] at rx; subst rx; rfl
    | bl b => rw [rt_bl] at rx; subst rx; rfl
    | int b => rw [rt_int] at rx; subst rx; rfl
    | str b => rw [rt_str] at rx; subst rx; rfl
    | adr b => rw [rt_adr] at rx; subst rx; rfl
    | tup b => rw [rt_tup] at rx; obtain ⟨a, vs, rfl, _⟩ := rx; rfl
    | fl b => rw [rt_fl] at rx; obtain ⟨a, vs, rfl, _⟩ := rx; rfl
  · exact q.elim
theorem o2_isnot : Op2 (zx X) (fun x y H Q => y = .non ∧ Q (.bl (!decide (x = .non))) H) (oIsG true) := by
  intro x y v u S H H0 Q R e rs rx ry q k
  unfold oIsG at q
  split at q
  · rw [rt_non] at ry
    refine ⟨ry, k _ _ (.here e rs ?_ q)⟩
    rw [rt_bl]
    cases x with
    | non => rw [rt_non] at rx; subst rx; rfl
    | bl b => rw [rt_bl] at rx; subst rx; rfl
    | int b => rw [rt_int] at rx; subst rx; rfl
    | str b => rw [rt_str] at rx; subst rx; rfl
    | adr b => rw [rt_adr] at rx; subst rx; rfl
    | tup b => rw [rt_tup] at rx; obtain ⟨a, vs, rfl, _⟩ := rx; rfl
    | fl b => rw [rt_fl] at rx; obtain ⟨a, vs, rfl, _⟩ := rx; rfl
  · exact q.elim
variable {a b c : Expr} {pos : Pos} {ta tb' tc' : TTE}
theorem q_add (ha : QE X a ta) (hb : QE X b tb') : QE X (.BinOp a .Add b pos) (tb oAdd ta tb') := q_op (op_add.or (op_add_str.or (op_catF.or op_cat))) o2_add ha hb
theorem q_sub (ha : QE X a ta) (hb : QE X b tb') : QE X (.BinOp a .Sub b pos) (tb oSub ta tb') := q_op op_sub o2_sub ha hb
theorem q_mul (ha : QE X a ta) (hb : QE X b tb') : QE X (.BinOp a .Mult b pos) (tb oMul ta tb') := q_op (op_mul.or op_rep) o2_mul ha hb
theorem q_div (ha : QE X a ta) (hb : QE X b tb') : QE X (.BinOp a .FloorDiv b pos) (tb oDiv ta tb') := q_op op_fdivW o2_div ha hb
theorem q_mod (ha : QE X a ta) (hb : QE X b tb') : QE X (.BinOp a .Mod b pos) (tb oMod ta tb') := q_op op_mod o2_mod ha hb
theorem q_pow (ha : QE X a ta) (hb : QE X b tb') : QE X (.BinOp a .Pow b pos) (tb oPow ta tb') := q_op op_pow o2_pow ha hb
theorem q_lt (ha : QE X a ta) (hb : QE X b tb') : QE X (.Compare a [.Lt] [b] pos) (tb oLt ta tb') := q_cmp (op_lt.or op_lt_str) o2_lt ha hb (nobehind _ (by decide) (by decide))
theorem q_le (ha : QE X a ta) (hb : QE X b tb') : QE X (.Compare a [.LtE] [b] pos) (tb oLe ta tb') := q_cmp op_le o2_le ha hb (nobehind _ (by decide) (by decide))
theorem q_gt (ha : QE X a ta) (hb : QE X b tb') : QE X (.Compare a [.Gt] [b] pos) (tb oGt ta tb') := q_cmp op_gt o2_gt ha hb (nobehind _ (by decide) (by decide))
theorem q_ge (ha : QE X a ta) (hb : QE X b tb') : QE X (.Compare a [.GtE] [b] pos) (tb oGe ta tb') := q_cmp op_ge o2_ge ha hb (nobehind _ (by decide) (by decide))
theorem q_eq (hu : X.A.units + 200 < cLine) (ha : QE X a ta) (hb : QE X b tb') : QE X (.Compare a [.Eq] [b] pos) (tb oEq ta tb') := q_cmp (op_eqM hu) o2_eq ha hb (nobehind _ (by decide) (by decide))
theorem q_ne (hu : X.A.units + 200 < cLine) (ha : QE X a ta) (hb : QE X b tb') : QE X (.Compare a [.NotEq] [b] pos) (tb oNe ta tb') := q_cmp (op_neM hu) o2_eq ha hb (nobehind _ (by decide) (by decide))
theorem q_is (ha : QE X a ta) (hb : QE X b tb') : QE X (.Compare a [.Is] [b] pos) (tb (oIsG false) ta tb') := q_cmp op_isN o2_is ha hb (nobehind _ (by decide) (by decide))
theorem q_isnot (ha : QE X a ta) (hb : QE X b tb') : QE X (.Compare a [.IsNot] [b] pos) (tb (oIsG true) ta tb') := q_cmp op_notN o2_isnot ha hb (nobehind _ (by decide) (by decide))
theorem t_lt (ha : QE X a ta) (hb : QE X b tb') : QT X (.Compare a [.Lt] [b] pos) (tq (tb oLt ta tb')) := t_cmp (op_lt.or op_lt_str) o2_lt ha hb (nobehind _ (by decide) (by decide))
theorem t_le (ha : QE X a ta) (hb : QE X b tb') : QT X (.Compare a [.LtE] [b] pos) (tq (tb oLe ta tb')) := t_cmp op_le o2_le ha hb (nobehind _ (by decide) (by decide))
theorem t_gt (ha : QE X a ta) (hb : QE X b tb') : QT X (.Compare a [.Gt] [b] pos) (tq (tb oGt ta tb')) := t_cmp op_gt o2_gt ha hb (nobehind _ (by decide) (by decide))
theorem t_ge (ha : QE X a ta) (hb : QE X b tb') : QT X (.Compare a [.GtE] [b] pos) (tq (tb oGe ta tb')) := t_cmp op_ge o2_ge ha hb (nobehind _ (by decide) (by decide))
theorem t_eq (hu : X.A.units + 200 < cLine) (ha : QE X a ta) (hb : QE X b tb') : QT X (.Compare a [.Eq] [b] pos) (tq (tb oEq ta tb')) := t_cmp (op_eqM hu) o2_eq ha hb (nobehind _ (by decide) (by decide))
theorem t_ne (hu : X.A.units + 200 < cLine) (ha : QE X a ta) (hb : QE X b tb') : QT X (.Compare a [.NotEq] [b] pos) (tq (tb oNe ta tb')) := t_cmp (op_neM hu) o2_eq ha hb (nobehind _ (by decide) (by decide))
theorem t_is (ha : QE X a ta) (hb : QE X b tb') : QT X (.Compare a [.Is] [b] pos) (tq (tb (oIsG false) ta tb')) := t_cmp op_isN o2_is ha hb (nobehind _ (by decide) (by decide))
theorem t_isnot (ha : QE X a ta) (hb : QE X b tb') : QT X (.Compare a [.IsNot] [b] pos) (tq (tb (oIsG true) ta tb')) := t_cmp op_notN o2_isnot ha hb (nobehind _ (by decide) (by decide))
end
end TL
set_option Elab.async false
set_option linter.all false
set_option maxRecDepth 100000
/-! TL3: in, subscripts, slices, displays, tests, conditional expressions over T. -/
namespace TL
open PySem PySem.Spec PyProof.Rows L2

/-! ### tables over T -/
section
variable {κ : Type} [DecidableEq κ]
def valT (kvs : List (κ × T)) (k : κ) : Option T := (kvs.find? fun kv => decide (kv.1 = k)).map (·.2)
def putT (kvs : List (κ × T)) (k : κ) (v : T) : List (κ × T) :=
  if (kvs.any fun kv => decide (kv.1 = k)) = true then kvs.map (fun kv => if kv.1 = k then (kv.1, v) else kv) else kvs ++ [(k, v)]
def mergeT (kvs more : List (κ × T)) : List (κ × T) := more.foldl (fun acc kv => putT acc kv.1 kv.2) kvs
theorem valT_nil {k : κ} : valT ([] : List (κ × T)) k = none := rfl
theorem valT_pos {p : κ × T} {r : List (κ × T)} {k : κ} (e : p.1 = k) : valT (p :: r) k = some p.2 := by simp [valT, List.find?_cons, e]
theorem valT_neg {p : κ × T} {r : List (κ × T)} {k : κ} (e : ¬ p.1 = k) : valT (p :: r) k = valT r k := by simp [valT, List.find?_cons, e]
theorem valT_any (k : κ) : ∀ kvs : List (κ × T), (kvs.any fun kv => decide (kv.1 = k)) = (valT kvs k).isSome
  | [] => rfl
  | p :: r => by
    rw [List.any_cons]
    by_cases e : p.1 = k
    · simp only [valT_pos e, decide_eq_true e, Bool.true_or, Option.isSome_some]
    · rw [valT_neg e, decide_eq_false e, Bool.false_or]; exact valT_any k r
theorem length_putT (kvs : List (κ × T)) (k : κ) (v : T) : (putT kvs k v).length ≤ kvs.length + 1 := by
  unfold putT
  split
  · rw [List.length_map]; omega
  · rw [List.length_append, List.length_cons, List.length_nil]; omega
theorem putT_new {kvs : List (κ × T)} {k : κ} (v : T) (h : valT kvs k = none) : putT kvs k v = kvs ++ [(k, v)] := by
  unfold putT
  rw [valT_any, h]
  exact if_neg (by decide)
variable {K : Zk} {H : Hp}
/-- both are there, or neither -/
def ROp (K : Zk) (H : Hp) : Option T → Option V → Prop
  | some t, some v => RT K H t v
  | none, none => True
  | _, _ => False
theorem RKs.val : ∀ {kvs : List (κ × T)} {kv : List (κ × V)} (k : κ), RKs K H kvs kv → ROp K H (valT kvs k) (valV kv k)
  | _, _, k, .nil => True.intro
  | p :: ps, q :: qs, k, .cons h t => by
    by_cases e : p.1 = k
    · rw [valT_pos e, valV_pos (h.1.symm.trans e)]; exact h.2
    · rw [valT_neg e, valV_neg (fun z => e (h.1.trans z))]; exact RKs.val k t
theorem RKs.anyk : ∀ {kvs : List (κ × T)} {kv : List (κ × V)} (k : κ), RKs K H kvs kv → (kvs.any fun kv => decide (kv.1 = k)) = kv.any fun kv => decide (kv.1 = k)
  | _, _, k, .nil => rfl
  | p :: ps, q :: qs, k, .cons h t => by rw [List.any_cons, List.any_cons, RKs.anyk k t, h.1]
theorem RKs.repl : ∀ {kvs : List (κ × T)} {kv : List (κ × V)} (k : κ) {t : T} {v : V}, RKs K H kvs kv → RT K H t v → RKs K H (kvs.map fun p => if p.1 = k then (p.1, t) else p) (kv.map fun p => if p.1 = k then (p.1, v) else p)
  | _, _, k, t, v, .nil, _ => .nil
  | p :: ps, q :: qs, k, t, v, .cons h r, z => by
    rw [List.map_cons, List.map_cons]
    refine .cons ?_ (RKs.repl k r z)
    by_cases e : p.1 = k
    · rw [if_pos e, if_pos (h.1.symm.trans e)]; exact ⟨h.1, z⟩
    · rw [if_neg e, if_neg (fun z => e (h.1.trans z))]; exact h
theorem RKs.put {kvs : List (κ × T)} {kv : List (κ × V)} (k : κ) {t : T} {v : V} (r : RKs K H kvs kv) (z : RT K H t v) : RKs K H (putT kvs k t) (putK kv k v) := by
  unfold putT putK
  rw [r.anyk k]
  split
  · exact r.repl k z
  · exact Paired.snoc r ⟨rfl, z⟩
end
def keyT : T → Option Key
  | .int i => some (.inl i)
  | .str x => some (.inr x)
  | _ => none
def keysT : List T → Option (List Key)
  | [] => some []
  | t :: ts => (keyT t).bind fun k => (keysT ts).map fun ks => k :: ks
section
variable {K : Zk} {H : Hp}
theorem keyT_of {t : T} {v : V} {k : Key} (h : RT K H t v) (e : keyT t = some k) : v = kV k := by
  cases t with
  | int i => rw [rt_int] at h; cases e; exact h
  | str i => rw [rt_str] at h; cases e; exact h
  | _ => cases e
theorem keysT_of : ∀ {ts : List T} {vs : List V} {ks : List Key}, RTs K H ts vs → keysT ts = some ks → vs = ks.map kV
  | [], vs, ks, h, e => by rw [rts_nil] at h; cases e; exact h
  | t :: ts, vs, ks, h, e => by
    rw [rts_cons] at h
    obtain ⟨v, r, rfl, h1, h2⟩ := h
    unfold keysT at e
    cases e1 : keyT t with
    | none => rw [e1] at e; cases e
    | some k =>
      rw [e1] at e
      cases e2 : keysT ts with
      | none => rw [e2] at e; cases e
      | some ks' =>
        rw [e2] at e
        cases e
        rw [keyT_of h1 e1, keysT_of h2 e2]; rfl
end

/-! ### dicts read -/
def DG (K : Zk) (H : Hp) (a : Addr) (y : V) (o : Option V) : Prop := DGet H a y o ∨
  ∃ xs b k, H a = some (.ext (DxAt K a xs)) ∧ y = .ref b ∧ SqT K.K H b (k.map kV) ∧ (∀ q ∈ xs, SqT K.K H q.2.1 (q.1.map kV)) ∧ RelO o ((atKey xs k).map (·.2))
section
variable {X : Cx} {pins : List (Addr × Obj)} {σ : L2.St} {H : Hp} {s : Shared} {a : Addr} {y v : V} {u : Value} {o : Option V} {A : Around} {E : Value → Shared → Prop}
theorem key_ofQ (I : Inv X pins σ H s) {b : Addr} {ks : List Key} (e : SqT X.K H b (ks.map kV)) : (tupleKind (mixKind X.prog X.w)).is s.heap ks b := by
  obtain ⟨its, r, ⟨o, h1, h2, n, h3⟩, _⟩ := I.tuple e
  exact ⟨o, its.toArray, n, h1, h2, h3, by simpa using items_are r⟩
theorem dx_of (I : Inv X pins σ H s) {xs : List (List Key × Addr × Value)} (e : H a = some (.ext (DxAt (zx X) a xs))) (hk : ∀ q ∈ xs, SqT X.K H q.2.1 (q.1.map kV)) :
    (a == sysModules) = false ∧ xs.length ≤ sizeLine ∧ s.heap.DictOfH (tupleKind (mixKind X.prog X.w)) a xs := by
  obtain ⟨⟨hm, hz, ob, es, ep, h1, h2, h3, h4, h5⟩, _⟩ := (show ObjOk X.prog X.w H s.heap a (.ext (DxAt (zx X) a xs)) from I.hok a _ e)
  exact ⟨hm, hz, ob, es, ep, h1, h2, h3, h4, fun x hx => key_ofQ I (hk x hx), h5⟩
theorem g_typeIs (I : Inv X pins σ H s) (g : DG (zx X) H a y o) : s.TypeIs (.ref a) "dict" := by
  rcases g with g | ⟨xs, b, k, e, _, _, hk, _⟩
  · exact dict_typeIs I g
  · exact (dx_of I e hk).2.2.typeIs
theorem g_getItem {Q : Value → Shared → Prop} (hu : A.units + 1 < cLine) (I : Inv X pins σ H s) (g : DG (zx X) H a y (some v)) (ry : RelV y u) (h : ∀ w' s', Inv X pins σ H s' → RelV v w' → Q w' s') :
    wpAny (model X.prog X.w) A (getItem (.ref a) u) Q E s := by
  rcases g with g | ⟨xs, b, k, e, rfl, hb, hk, l⟩
  · exact d_getItem hu I g ry h
  · cases ry
    obtain ⟨_, _, dd⟩ := dx_of I e hk
    obtain ⟨w', hw, rw'⟩ := RelO.some_of (v := v) l
    obtain ⟨p, hp, hp2⟩ := Option.map_eq_some_iff.mp hw
    refine wpAny_getItem_heap (tupleKind_room_in1 hu) (key_ofQ I hb) dd hp ?_
    rw [hp2]
    exact h w' _ (I.tok _) rw'
theorem g_in {Q : Value → Shared → Prop} (hu : A.units + 1 < cLine) (I : Inv X pins σ H s) (g : DG (zx X) H a y o) (ry : RelV y u) (h : ∀ s', Inv X pins σ H s' → Q (.bool o.isSome) s') :
    wpAny (model X.prog X.w) A (compareOp .In u (.ref a)) Q E s := by
  rcases g with g | ⟨xs, b, k, e, rfl, hb, hk, l⟩
  · exact d_in hu I g ry h
  · cases ry
    obtain ⟨hd, _, dd⟩ := dx_of I e hk
    refine wpAny_in_heap (tupleKind_room_in1 hu) (key_ofQ I hb) hd dd ?_
    have q := l.isSome_eq
    rw [Option.isSome_map] at q
    rw [← q]
    exact h _ (I.tok _)
theorem g_notIn {Q : Value → Shared → Prop} (hu : A.units + 1 < cLine) (I : Inv X pins σ H s) (g : DG (zx X) H a y o) (ry : RelV y u) (h : ∀ s', Inv X pins σ H s' → Q (.bool (!o.isSome)) s') :
    wpAny (model X.prog X.w) A (compareOp .NotIn u (.ref a)) Q E s := by
  rcases g with g | ⟨xs, b, k, e, rfl, hb, hk, l⟩
  · exact d_notIn hu I g ry h
  · cases ry
    obtain ⟨hd, _, dd⟩ := dx_of I e hk
    refine wpAny_notIn_heap (tupleKind_room_in1 hu) (key_ofQ I hb) hd dd ?_
    have q := l.isSome_eq
    rw [Option.isSome_map] at q
    rw [← q]
    exact h _ (I.tok _)
end
section
variable {X : Cx}
def rIxG (K : Zk) : R2 := fun x y H Q => ∃ a v, x = .ref a ∧ DG K H a y (some v) ∧ Q v H
theorem ix_dg (hu : X.A.units + 1 < cLine) : IxR X (rIxG (zx X)) := by
  intro value slice pins s σ H x y v u Q I rx ry h hs
  obtain ⟨a, z, rfl, g, q⟩ := h
  cases rx
  have hT := g_typeIs I g
  unfold subscriptTail
  refine wpAny_bind ?_
  rw [getitemInPython_of_ne hT.not_modules]
  refine wpAny_bind (wpAny_specialOf hT PySem.F.slot_dict_getitem.lookup ?_)
  have fin : wpAny (model X.prog X.w) X.A (subscripted slice false (.ref a) u) (fun r s₃ => wpAny (model X.prog X.w) X.A (letTemporaryGo value (.ref a) r >>= fun _ => pure r) (EP X pins σ Q) X.xe s₃) X.xe s := by
    rw [hs]
    exact wpAny_operating (g_getItem hu I g ry fun w' s' I' rw' => wpAny_bind (wpAny_letTemporaryGo (wpAny_pure ⟨z, H, I', rw', q⟩)))
  first
    | exact wpAny_pure (wpAny_bind fin)
    | exact wpAny_bind (wpAny_pure (wpAny_bind fin))
    | exact wpAny_bind fin
def rInG (K : Zk) (neg : Bool) : R2 := fun x y H Q => ∃ a o, y = .ref a ∧ DG K H a x o ∧ Q (.bl (if neg then !o.isSome else o.isSome)) H
theorem op_inG (hu : X.A.units + 1 < cLine) : OpR X (compareOp .In) (rInG (zx X) false) := by
  intro pins s σ H x y v u Q I rx ry h
  obtain ⟨a, o, rfl, g, q⟩ := h
  cases ry
  exact g_in hu I g rx fun s' I' => ⟨.bl _, H, I', rfl, q⟩
theorem op_notInG (hu : X.A.units + 1 < cLine) : OpR X (compareOp .NotIn) (rInG (zx X) true) := by
  intro pins s σ H x y v u Q I rx ry h
  obtain ⟨a, o, rfl, g, q⟩ := h
  cases ry
  exact g_notIn hu I g rx fun s' I' => ⟨.bl _, H, I', rfl, q⟩
end
/-- what a dict tells for a key; none: no such dict, or no such key -/
def dget (S : Sto) (a : Addr) (y : T) : Option (Option T) := match S a with
  | some (.dk kvs) => (keyT y).map fun k => valT kvs k
  | some (.dx kvs) => match y with
    | .tup ks => (keysT ks).map fun k => valT kvs k
    | _ => none
  | _ => none
section
variable {K : Zk} {H : Hp} {S : Sto}
theorem RXs.val : ∀ {kvs : List (List Key × T)} {xs : List (List Key × Addr × Value)} (k : List Key), RXs K H kvs xs → ∃ o, ROp K H (valT kvs k) o ∧ RelO o ((atKey xs k).map (·.2))
  | _, _, k, .nil => ⟨none, True.intro, True.intro⟩
  | p :: ps, q :: qs, k, .cons h t => by
    obtain ⟨h1, h2, v, h3, h4⟩ := h
    by_cases e : p.1 = k
    · refine ⟨some v, ?_, ?_⟩
      · rw [valT_pos e]; exact h4
      · have b : atKey (q :: qs) k = some q.2 := by simp [atKey, List.find?_cons, h1.symm.trans e]
        rw [b]; exact h3
    · obtain ⟨o, a1, a2⟩ := RXs.val k t
      have e' : ¬ q.1 = k := fun z => e (h1.trans z)
      have b : atKey (q :: qs) k = atKey qs k := by simp [atKey, List.find?_cons, e']
      exact ⟨o, by rw [valT_neg e]; exact a1, by rw [b]; exact a2⟩
theorem RXs.keys : ∀ {kvs : List (List Key × T)} {xs : List (List Key × Addr × Value)}, RXs K H kvs xs → ∀ q ∈ xs, SqT K.K H q.2.1 (q.1.map kV)
  | _, _, .nil => fun q hq => nomatch hq
  | p :: ps, q :: qs, .cons h t => fun z hz => by
    rcases List.mem_cons.mp hz with rfl | hz
    · rw [← h.1]; exact h.2.1
    · exact RXs.keys t z hz
theorem dget_of (rs : RelS K S H) {a : Addr} {y : T} {v : V} {o : Option T} (e : dget S a y = some o) (ry : RT K H y v) : ∃ o', ROp K H o o' ∧ DG K H a v o' := by
  unfold dget at e
  split at e
  · rename_i kvs e1
    obtain ⟨kv, h1, h2⟩ := rs a _ e1
    cases e2 : keyT y with
    | none => rw [e2] at e; cases e
    | some k =>
      rw [e2] at e
      cases e
      rw [keyT_of ry e2]
      exact ⟨_, h2.val k, .inl (DGet.k h1)⟩
  · rename_i kvs e1
    obtain ⟨xs, h1, h2⟩ := rs a _ e1
    split at e
    · rename_i ks
      cases e2 : keysT ks with
      | none => rw [e2] at e; cases e
      | some k =>
        rw [e2] at e
        cases e
        rw [rt_tup] at ry
        obtain ⟨b, vs, rfl, g1, g2⟩ := ry
        obtain ⟨o', a1, a2⟩ := h2.val k
        rw [keysT_of g2 e2] at g1
        exact ⟨o', a1, .inr ⟨xs, b, k, h1, rfl, g1.sqT, h2.keys, a2⟩⟩
    · cases e
  · cases e
end

/-! ### subscripts -/
def oIx : O2 := fun x y S Q => match x, y with
  | .tup xs, .int i => (match atI xs i with | some v => Q v S | none => False)
  | .fl xs, .int i => (match atI xs i with | some v => Q v S | none => False)
  | .str z, .int i => z.length ≤ sizeLine ∧ (match atI z.cps.toList i with | some c => Q (.str ⟨#[c]⟩) S | none => False)
  | .adr a, y => (match lstAt S a with
    | some xs => (match y with | .int i => (match atI xs i with | some v => Q v S | none => False) | _ => False)
    | none => (match dget S a y with | some (some v) => Q v S | _ => False))
  | _, _ => False
section
variable {K : Zk} {H : Hp}
theorem RTs.atI {ts : List T} {vs : List V} {i : Int} {t : T} (h : RTs K H ts vs) (e : L2.atI ts i = some t) : ∃ v, L2.atI vs i = some v ∧ RT K H t v := by
  unfold L2.atI at e ⊢
  rw [← h.length]
  cases e1 : ixN ts.length i with
  | none => rw [e1] at e; cases e
  | some j =>
    rw [e1] at e
    exact h.get (i := j) e
end
section
variable {X : Cx} {a b : Expr} {ta tb' : TTE} {pos : Pos}
theorem q_ix (hu : X.A.units + 200 < cLine) (ha : QE X a ta) (hb : QE X b tb') (hs : PlainIx b := by intro _ _; rfl) : QE X (.Subscript a b pos) (tb oIx ta tb') := by
  have op : Op2 (zx X) (fun x y H Q => rIx X.K x y H Q ∨ rIxG (zx X) x y H Q) oIx := by
    intro x y v u S H H0 Q R e rs rx ry q k
    unfold oIx at q
    split at q
    · split at q
      · rename_i t e1
        rw [rt_tup] at rx
        rw [rt_int] at ry
        obtain ⟨p, vs, rfl, h1, h2⟩ := rx
        obtain ⟨w, h3, h4⟩ := h2.atI e1
        exact .inl (.inr (.inl ⟨p, vs, _, w, rfl, ry, h1.sqT, h3, k _ _ (.here e rs h4 q)⟩))
      · exact q.elim
    · split at q
      · rename_i t e1
        rw [rt_fl] at rx
        rw [rt_int] at ry
        obtain ⟨p, vs, rfl, h1, h2⟩ := rx
        obtain ⟨w, h3, h4⟩ := h2.atI e1
        exact .inl (.inl ⟨p, vs, _, w, rfl, ry, h1.sqL, h3, k _ _ (.here e rs h4 q)⟩)
      · exact q.elim
    · obtain ⟨hz, q⟩ := q
      split at q
      · rename_i c e1
        rw [rt_str] at rx
        rw [rt_int] at ry
        exact .inl (.inr (.inr ⟨_, _, c, rx, ry, hz, e1, k _ _ (.here e rs (by rw [rt_str]) q)⟩))
      · exact q.elim
    · rw [rt_adr] at rx
      split at q
      · rename_i xs e1
        split at q
        · split at q
          · rename_i t e2
            rw [rt_int] at ry
            obtain ⟨vs, h1, h2⟩ := rs.list e1
            obtain ⟨w, h3, h4⟩ := h2.atI e2
            exact .inl (.inl ⟨_, vs, _, w, rx, ry, h1, h3, k _ _ (.here e rs h4 q)⟩)
          · exact q.elim
        · exact q.elim
      · split at q
        · rename_i t e2
          obtain ⟨o', h1, h2⟩ := dget_of rs e2 ry
          cases o' with
          | none => exact h1.elim
          | some w => exact .inr ⟨_, w, rx, h2, k _ _ (.here e rs h1 q)⟩
        · exact q.elim
    · exact q.elim
  exact qe_of (pe_ix (ix_seq.or (ix_dg (by omega))) ha hb hs) fun σ H ρ S Q rs re q => LE.mk rs re q fun x S1 v H1 e1 rs1 rx q1 => LE.mk rs1 (re.ext e1) q1 fun y S2 u H2 e2 rs2 ry q2 =>
    op x y v u S2 H2 H Q _ (e1.trans e2) rs2 (RT.ext e2 _ rx) ry q2 fun _ _ w => w
end

/-! ### slices -/
def cutT (xs : List T) (lo hi : Option Int) : List T := (xs.drop (HT.sIx xs.length 0 lo)).take (HT.sIx xs.length xs.length hi - HT.sIx xs.length 0 lo)
abbrev TTO := Rho → Sto → (Option Int → Sto → Prop) → Prop
def tno : TTO := fun _ S Q => Q none S
def tpt (t : TTE) : TTO := fun ρ S Q => t ρ S fun x S1 => match x with | .int i => Q (some i) S1 | _ => False
def oSl (x : T) (lo hi : Option Int) (S : Sto) (Q : T → Sto → Prop) : Prop := match x with
  | .tup xs => Q (.tup (cutT xs lo hi)) S
  | .str z => z.length ≤ sizeLine ∧ Q (.str (cutS z lo hi)) S
  | .fl xs => NewO S (.lst (cutT xs lo hi)) Q
  | .adr a => (match lstAt S a with | some xs => NewO S (.lst (cutT xs lo hi)) Q | none => False)
  | _ => False
def tsl (te : TTE) (tl th : TTO) : TTE := fun ρ S Q => te ρ S fun x S1 => tl ρ S1 fun l S2 => th ρ S2 fun u S3 => oSl x l u S3 Q
section
variable {X : Cx}
def LO (K : Zk) (t : TTO) : TO := fun σ H Q => ∃ ρ S Q', RelS K S H ∧ RelE K H σ ρ ∧ t ρ S Q' ∧ ∀ o S' H', Ext H H' → RelS K S' H' → Q' o S' → Q o H'
abbrev QO (X : Cx) (e : Option Expr) (t : TTO) : Prop := PO X e (LO (zx X) t)
theorem qo_none : QO X none tno := ⟨fun pins s σ H Q I h => by
  obtain ⟨ρ, S, Q', rs, re, q, m⟩ := h
  exact po_none.run pins s σ H Q I (m none S H (.refl _) rs q)⟩
theorem qo_some {e : Expr} {t : TTE} (h : QE X e t) : QO X (some e) (tpt t) := ⟨fun pins s σ H Q I hq => by
  obtain ⟨ρ, S, Q', rs, re, q, m⟩ := hq
  refine (po_some h).run pins s σ H Q I (LE.mk rs re q fun r S' v H' e rs' rr q' => ?_)
  cases r with
  | int i => rw [rt_int] at rr; exact ⟨i, rr, m _ _ _ e rs' q'⟩
  | _ => exact q'.elim⟩
theorem RTs.cut {K : Zk} {H : Hp} {ts : List T} {vs : List V} (h : RTs K H ts vs) (lo hi : Option Int) : RTs K H (cutT ts lo hi) (cutV vs lo hi) := by
  unfold cutT cutV
  rw [← h.length]
  exact (h.drop _).take _
theorem SlR.or' {r r' : V → Option Int → Option Int → Hp → VK → Prop} (h : L2.SlR X r) (h' : L2.SlR X r') : L2.SlR X (fun x lo hi H Q => r x lo hi H Q ∨ r' x lo hi H Q) := L2.SlR.or h h'
theorem cut_whole {xs : List V} {lo hi : Option Int} (h : HT.sIx xs.length 0 lo = 0 ∧ HT.sIx xs.length xs.length hi = xs.length) : cutV xs lo hi = xs := by
  unfold cutV
  rw [h.1, h.2]
  simp
theorem q_sl {e : Expr} {lo hi : Option Expr} {te : TTE} {tl th : TTO} {pos p2 : Pos} (he : QE X e te) (hl : QO X lo tl) (hh : QO X hi th) : QE X (.Subscript e (.Slice lo hi none p2) pos) (tsl te tl th) := by
  refine qe_of (pe_slice (sl_tupF.or (sl_list.or sl_str)) he hl hh) fun σ H ρ S Q rs re q => LE.mk rs re q fun x S1 v H1 e1 rs1 rx q1 =>
    ⟨ρ, S1, _, rs1, re.ext e1, q1, fun l S2 H2 e2 rs2 q2 => ⟨ρ, S2, _, rs2, (re.ext e1).ext e2, q2, fun u S3 H3 e3 rs3 q3 => ?_⟩⟩
  have ee := (e1.trans e2).trans e3
  have rx := RT.ext (e2.trans e3) _ rx
  unfold oSl at q3
  split at q3
  · rename_i xs
    rw [rt_tup] at rx
    obtain ⟨a, vs, rfl, h1, h2⟩ := rx
    have hc := h2.cut l u
    refine .inl ⟨a, vs, rfl, h1.sqT, fun hw => ?_, fun _ p ob hp hd => .tup ee rs3 hp hd hc q3⟩
    rw [cut_whole hw] at hc
    exact .here ee rs3 (by rw [rt_tup]; exact ⟨a, vs, rfl, h1, hc⟩) q3
  · rw [rt_str] at rx
    exact .inr (.inr ⟨_, rx, q3.1, .here ee rs3 (by rw [rt_str]) q3.2⟩)
  · rw [rt_fl] at rx
    obtain ⟨a, vs, rfl, h1, h2⟩ := rx
    exact .inr (.inl ⟨_, vs, rfl, h1.sqL, fun p hp => .lst ee rs3 hp (h2.cut l u) (q3.at (rs3.none_of hp))⟩)
  · rw [rt_adr] at rx
    split at q3
    · rename_i xs e4
      obtain ⟨vs, h1, h2⟩ := rs3.list e4
      exact .inr (.inl ⟨_, vs, rx, h1, fun p hp => .lst ee rs3 hp (h2.cut l u) (q3.at (rs3.none_of hp))⟩)
    · exact q3.elim
  · exact q3.elim
end
end TL
set_option Elab.async false
set_option linter.all false
set_option maxRecDepth 100000
/-! TL4: in, displays, tests, connectives, arguments over T. -/
namespace TL
open PySem PySem.Spec PyProof.Rows L2

/-! ### in -/
section
variable {X : Cx} {pins : List (Addr × Obj)} {σ : L2.St} {H : Hp} {s : Shared}
noncomputable def eqW (X : Cx) (H : Hp) (x : T) (u : Value) : Bool := @decide (∃ t v, RT (zx X) H t v ∧ RelV v u ∧ t.pur = true ∧ eqT t x = true) (Classical.propDecidable _)
theorem eqW_of (I : Inv X pins σ H s) {x t : T} {v : V} {u : Value} (h : RT (zx X) H t v) (r : RelV v u) (p : t.pur = true) : eqW X H x u = eqT t x := by
  unfold eqW
  cases e : eqT t x with
  | true => exact @decide_eq_true _ (Classical.propDecidable _) ⟨t, v, h, r, p, e⟩
  | false =>
    refine @decide_eq_false _ (Classical.propDecidable _) fun ⟨t', v', h', r', p', e'⟩ => ?_
    have : v' = v := r'.inj r
    subst this
    rw [RT.inj I t t' h h' p p'] at e
    rw [e] at e'; cases e'
theorem eqW_any (I : Inv X pins σ H s) {x : T} : ∀ {ts : List T} {vs : List V} {us : List Value}, RTs (zx X) H ts vs → Vals vs us → T.purs ts = true → us.any (eqW X H x) = ts.any fun t => eqT t x
  | [], vs, us, h, r, _ => by rw [rts_nil] at h; subst h; cases r; rfl
  | t :: ts, vs, us, h, r, p => by
    rw [rts_cons] at h
    obtain ⟨v, w, rfl, h1, h2⟩ := h
    rw [purs_cons, Bool.and_eq_true] at p
    cases r with
    | cons r1 r2 => rw [List.any_cons, List.any_cons, eqW_of I h1 r1 p.1, eqW_any I h2 r2 p.2]
theorem eqW_at (I : Inv X pins σ H s) {x : T} {vx : V} {ux : Value} (hx : RT (zx X) H x vx) (rx : RelV vx ux) (px : x.pur = true) : ∀ {ts : List T} {vs : List V} {us : List Value} {A : Around}, RTs (zx X) H ts vs → Vals vs us → T.purs ts = true →
    A.units + min (T.depths ts) x.depth < cLine → ∀ u ∈ us, SeqAt.EqAt A s u ux (eqW X H x u)
  | [], vs, us, A, h, r, _, _ => by rw [rts_nil] at h; subst h; cases r; intro u hu; cases hu
  | t :: ts, vs, us, A, h, r, p, hu => by
    rw [rts_cons] at h
    obtain ⟨v, w, rfl, h1, h2⟩ := h
    rw [purs_cons, Bool.and_eq_true] at p
    rw [depths_cons] at hu
    cases r with
    | cons r1 r2 =>
      intro u hu'
      rcases List.mem_cons.mp hu' with rfl | hu'
      · rw [eqW_of I h1 r1 p.1]
        exact eqAt_T I t x A _ _ _ _ h1 hx r1 rx p.1 px (by omega)
      · exact eqW_at I hx rx px h2 r2 p.2 (by omega) u hu'
end
section
variable {X : Cx}
def rInM (K : Zk) (neg : Bool) : R2 := fun x y H Q => ∃ t a ds vs, RT K H t x ∧ y = .ref a ∧ (SqL K.K H a vs ∨ SqT K.K H a vs) ∧ RTs K H ds vs ∧ t.pur = true ∧ T.purs ds = true ∧ min (T.depths ds) t.depth ≤ 149 ∧
  Q (.bl (if neg then !(ds.any fun z => eqT z t) else (ds.any fun z => eqT z t))) H
theorem op_inM (hu : X.A.units + 200 < cLine) : OpR X (compareOp .In) (rInM (zx X) false) := by
  intro pins s σ H x y v u Q I rx ry h
  obtain ⟨t, a, ds, vs, hx, rfl, hq, hd, p1, p2, hm, q⟩ := h
  cases ry
  rcases hq with hq | hq
  · obtain ⟨its, r, pl, hz⟩ := I.list hq
    refine SeqAt.in_listAt (eqW X H t) pl.isList (fun w hw => eqW_at I hx rx p1 (A := X.A.in1) hd r p2 (by show X.A.units + 1 + _ < _; omega) w (by simpa using hw)) ⟨.bl _, H, I, rfl, ?_⟩
    rw [show its.toArray.any (eqW X H t) = its.any (eqW X H t) by simp, eqW_any I hd r p2]
    exact q
  · obtain ⟨its, r, pl, hz⟩ := I.tuple hq
    refine SeqAt.in_tupleAt (eqW X H t) pl (fun w hw => eqW_at I hx rx p1 (A := X.A.in1) hd r p2 (by show X.A.units + 1 + _ < _; omega) w (by simpa using hw)) ⟨.bl _, H, I, rfl, ?_⟩
    rw [show its.toArray.any (eqW X H t) = its.any (eqW X H t) by simp, eqW_any I hd r p2]
    exact q
theorem op_notInM (hu : X.A.units + 200 < cLine) : OpR X (compareOp .NotIn) (rInM (zx X) true) := by
  intro pins s σ H x y v u Q I rx ry h
  obtain ⟨t, a, ds, vs, hx, rfl, hq, hd, p1, p2, hm, q⟩ := h
  cases ry
  rcases hq with hq | hq
  · obtain ⟨its, r, pl, hz⟩ := I.list hq
    refine SeqAt.notIn_listAt (eqW X H t) pl.isList (fun w hw => eqW_at I hx rx p1 (A := X.A.in1) hd r p2 (by show X.A.units + 1 + _ < _; omega) w (by simpa using hw)) ⟨.bl _, H, I, rfl, ?_⟩
    rw [show its.toArray.any (eqW X H t) = its.any (eqW X H t) by simp, eqW_any I hd r p2]
    exact q
  · obtain ⟨its, r, pl, hz⟩ := I.tuple hq
    refine SeqAt.notIn_tupleAt (eqW X H t) pl (fun w hw => eqW_at I hx rx p1 (A := X.A.in1) hd r p2 (by show X.A.units + 1 + _ < _; omega) w (by simpa using hw)) ⟨.bl _, H, I, rfl, ?_⟩
    rw [show its.toArray.any (eqW X H t) = its.any (eqW X H t) by simp, eqW_any I hd r p2]
    exact q
end
def strIn (c z : Str) : Bool := match c.cps.toList with
  | [n] => decide (n ∈ z.cps.toList)
  | _ => !(Builtin.Str.occurrences z c 0 z.length 1).isEmpty
def oInG (neg : Bool) : O2 := fun x y S Q => match y with
  | .tup ds => x.pur = true ∧ T.purs ds = true ∧ min (T.depths ds) x.depth ≤ 149 ∧ Q (.bl (eqG neg (ds.any fun z => eqT z x))) S
  | .str z => (match x with | .str c => Q (.bl (eqG neg (strIn c z))) S | _ => False)
  | .adr a => (match lstAt S a with
    | some ds => x.pur = true ∧ T.purs ds = true ∧ min (T.depths ds) x.depth ≤ 149 ∧ Q (.bl (eqG neg (ds.any fun z => eqT z x))) S
    | none => (match dget S a x with | some o => Q (.bl (eqG neg o.isSome)) S | none => False))
  | _ => False
section
variable {X : Cx}
theorem strIn_one {n : Nat} {z : Str} : strIn ⟨#[n]⟩ z = decide (n ∈ z.cps.toList) := rfl
theorem strIn_or (c z : Str) : (∃ n, c = ⟨#[n]⟩ ∧ strIn c z = decide (n ∈ z.cps.toList)) ∨ strIn c z = !(Builtin.Str.occurrences z c 0 z.length 1).isEmpty := by
  obtain ⟨⟨l⟩⟩ := c
  match l with
  | [] => exact .inr rfl
  | [n] => exact .inl ⟨n, rfl, rfl⟩
  | _ :: _ :: _ => exact .inr rfl
def rInStr (neg : Bool) : R2 := fun x y H Q => ∃ c z, x = .str c ∧ y = .str z ∧ Q (.bl (if neg then !strIn c z else strIn c z)) H
theorem op_inStr : OpR X (compareOp .In) (rInStr false) := by
  intro pins s σ H x y v u Q I rx ry h
  obtain ⟨c, z, rfl, rfl, q⟩ := h
  rcases strIn_or c z with ⟨n, rfl, e⟩ | e
  · rw [e] at q
    exact op_in_sign pins s σ H _ _ v u Q I rx ry ⟨n, z, rfl, rfl, q⟩
  · rw [e] at q
    exact op_in_str pins s σ H _ _ v u Q I rx ry ⟨c, z, rfl, rfl, q⟩
theorem op_notInStr : OpR X (compareOp .NotIn) (rInStr true) := by
  intro pins s σ H x y v u Q I rx ry h
  obtain ⟨c, z, rfl, rfl, q⟩ := h
  rcases strIn_or c z with ⟨n, rfl, e⟩ | e
  · rw [e] at q
    exact op_notIn_sign pins s σ H _ _ v u Q I rx ry ⟨n, z, rfl, rfl, q⟩
  · rw [e] at q
    exact op_notIn_str pins s σ H _ _ v u Q I rx ry ⟨c, z, rfl, rfl, q⟩
theorem o2_in {neg : Bool} : Op2 (zx X) (fun x y H Q => rInM (zx X) neg x y H Q ∨ rInG (zx X) neg x y H Q ∨ rInStr neg x y H Q) (oInG neg) := by
  intro x y v u S H H0 Q R e rs rx ry q k
  unfold oInG at q
  split at q
  · obtain ⟨p1, p2, hd, q⟩ := q
    rw [rt_tup] at ry
    obtain ⟨a, vs, rfl, h1, h2⟩ := ry
    exact .inl ⟨x, a, _, vs, rx, rfl, .inr h1.sqT, h2, p1, p2, hd, k _ _ (.here e rs (by rw [rt_bl]; rfl) q)⟩
  · split at q
    · rw [rt_str] at rx ry
      exact .inr (.inr ⟨_, _, rx, ry, k _ _ (.here e rs (by rw [rt_bl]; rfl) q)⟩)
    · exact q.elim
  · rw [rt_adr] at ry
    split at q
    · rename_i ds e1
      obtain ⟨p1, p2, hd, q⟩ := q
      obtain ⟨vs, h1, h2⟩ := rs.list e1
      exact .inl ⟨x, _, _, vs, rx, ry, .inl h1, h2, p1, p2, hd, k _ _ (.here e rs (by rw [rt_bl]; rfl) q)⟩
    · split at q
      · rename_i o e2
        obtain ⟨o', h1, h2⟩ := dget_of rs e2 rx
        refine .inr (.inl ⟨_, o', ry, h2, k _ _ (.here e rs ?_ q)⟩)
        rw [rt_bl]
        cases o with
        | none => cases o' with
          | none => rfl
          | some _ => exact h1.elim
        | some _ => cases o' with
          | none => exact h1.elim
          | some _ => rfl
      · exact q.elim
  · exact q.elim
variable {a b c : Expr} {pos : Pos} {ta tb' tc' : TTE}
theorem q_in (hu : X.A.units + 200 < cLine) (ha : QE X a ta) (hb : QE X b tb') (hm : behindInMarks .In b = false := by rfl) : QE X (.Compare a [.In] [b] pos) (tb (oInG false) ta tb') := q_cmp ((op_inM hu).or ((op_inG (by omega)).or op_inStr)) o2_in ha hb hm
theorem q_notin (hu : X.A.units + 200 < cLine) (ha : QE X a ta) (hb : QE X b tb') (hm : behindInMarks .NotIn b = false := by rfl) : QE X (.Compare a [.NotIn] [b] pos) (tb (oInG true) ta tb') := q_cmp ((op_notInM hu).or ((op_notInG (by omega)).or op_notInStr)) o2_in ha hb hm
theorem t_in (hu : X.A.units + 200 < cLine) (ha : QE X a ta) (hb : QE X b tb') (hm : behindInMarks .In b = false := by rfl) : QT X (.Compare a [.In] [b] pos) (tq (tb (oInG false) ta tb')) := t_cmp ((op_inM hu).or ((op_inG (by omega)).or op_inStr)) o2_in ha hb hm
theorem t_notin (hu : X.A.units + 200 < cLine) (ha : QE X a ta) (hb : QE X b tb') (hm : behindInMarks .NotIn b = false := by rfl) : QT X (.Compare a [.NotIn] [b] pos) (tq (tb (oInG true) ta tb')) := t_cmp ((op_notInM hu).or ((op_notInG (by omega)).or op_notInStr)) o2_in ha hb hm
end

/-! ### arguments, displays -/
def tan : TTA := fun _ S Q => Q [] S
def tac (t : TTE) (r : TTA) : TTA := fun ρ S Q => t ρ S fun x S1 => r ρ S1 fun xs S2 => Q (x :: xs) S2
def ttup (t : TTA) : TTE := fun ρ S Q => t ρ S fun xs S1 => xs.length ≤ sizeLine ∧ Q (.tup xs) S1
def tlst (t : TTA) : TTE := fun ρ S Q => t ρ S fun xs S1 => xs.length ≤ sizeLine ∧ NewO S1 (.lst xs) Q
section
variable {X : Cx} {e : Expr} {es : List Expr} {te : TTE} {t : TTA} {pos : Pos}
theorem qa_nil : QA X [] tan := qa_of pa_nil fun σ H ρ S Q rs re q => ⟨[], S, .refl _, rs, .nil, q⟩
theorem qa_cons (ha : QE X e te) (hr : QA X es t) (hs : starEach (e :: es) X.env = (false, eval e X.env) :: starEach es X.env := by rfl) : QA X (e :: es) (tac te t) :=
  qa_of (pa_cons ha hr hs) fun σ H ρ S Q rs re q => LE.mk rs re q fun x S1 v H1 e1 rs1 rx q1 => LA.mk rs1 (re.ext e1) q1 fun xs S2 vs H2 e2 rs2 rxs q2 => ⟨x :: xs, S2, e1.trans e2, rs2, .cons (RT.ext e2 _ rx) rxs, q2⟩
theorem q_tup {x1} (h : QA X es t) : QE X (.Tuple es x1 pos) (ttup t) :=
  qe_of (pe_tupF h) fun σ H ρ S Q rs re q => LA.mk rs re q fun xs S1 vs H1 e1 rs1 rx q1 => ⟨by rw [← rx.length]; exact q1.1, fun p ob hp hd => .tup e1 rs1 hp hd rx q1.2⟩
theorem q_lst (h : QA X es t) : QE X (.List es pos) (tlst t) :=
  qe_of (pe_lst h) fun σ H ρ S Q rs re q => LA.mk rs re q fun xs S1 vs H1 e1 rs1 rx q1 => ⟨by rw [← rx.length]; exact q1.1, fun p hp => .lst e1 rs1 hp rx (q1.2.at (rs1.none_of hp))⟩
theorem q_dict0 : QE X (.Dict [] [] pos) (fun _ S Q => NewO S (.dk []) Q) :=
  qe_of pe_dnewK fun σ H ρ S Q rs re q p hp => .laid (m := .dk []) (.refl _) rs hp ⟨[], upd_same, .nil⟩ (q.at (rs.none_of hp))
end
/-! a display {k: v, ..} -/
def tps : List (TTE × TTE) → Rho → Sto → (List (T × T) → Sto → Prop) → Prop
  | [], _, S, Q => Q [] S
  | (tk, tv) :: r, ρ, S, Q => tk ρ S fun x S1 => tv ρ S1 fun y S2 => tps r ρ S2 fun ps S3 => Q ((x, y) :: ps) S3
def keysOf : List (T × T) → Option (List (Key × T))
  | [] => some []
  | (x, y) :: r => (keyT x).bind fun k => (keysOf r).map fun ks => (k, y) :: ks
def tdisp (trs : List (TTE × TTE)) : TTE := fun ρ S Q => ∀ p S0, S p = none → Upd S p (.dk []) S0 → tps trs ρ S0 fun ps S1 => S1 p = some (.dk []) ∧ match keysOf ps with
  | some kvs => kvs.length ≤ 15 ∧ ∀ S2, Upd S1 p (.dk (mergeT [] kvs)) S2 → Q (.adr p) S2
  | none => False
section
variable {X : Cx}
def RPs (K : Zk) (H : Hp) : List (T × T) → List (V × V) → Prop := Paired fun p q => RT K H p.1 q.1 ∧ RT K H p.2 q.2
theorem RPs.ext {K : Zk} {H H' : Hp} (x : Ext H H') : ∀ {ps : List (T × T)} {qs : List (V × V)}, RPs K H ps qs → RPs K H' ps qs
  | _, _, .nil => .nil
  | _, _, .cons r t => .cons ⟨RT.ext x _ r.1, RT.ext x _ r.2⟩ (RPs.ext x t)
theorem keysOf_of {K : Zk} {H : Hp} : ∀ {ps : List (T × T)} {qs : List (V × V)} {kvs : List (Key × T)}, RPs K H ps qs → keysOf ps = some kvs → ∃ kv : List (Key × V), qs = kv.map (fun p => (kV p.1, p.2)) ∧ RKs K H kvs kv
  | [], _, kvs, .nil, e => by cases e; exact ⟨[], rfl, .nil⟩
  | (x, y) :: ps, q :: qs, kvs, .cons h t, e => by
    unfold keysOf at e
    cases e1 : keyT x with
    | none => rw [e1] at e; cases e
    | some k =>
      rw [e1] at e
      cases e2 : keysOf ps with
      | none => rw [e2] at e; cases e
      | some ks =>
        rw [e2] at e
        cases e
        obtain ⟨kv, h1, h2⟩ := keysOf_of t e2
        obtain ⟨q1, q2⟩ := q
        refine ⟨(k, q2) :: kv, ?_, .cons ⟨rfl, h.2⟩ h2⟩
        rw [List.map_cons, ← h1, ← keyT_of h.1 e1]
theorem RKs.merge {K : Zk} {H : Hp} : ∀ {more : List (Key × T)} {mv : List (Key × V)} {kvs : List (Key × T)} {kv : List (Key × V)}, RKs K H more mv → RKs K H kvs kv → RKs K H (mergeT kvs more) (mergeK kv mv)
  | _, _, _, _, .nil, r => r
  | p :: ps, q :: qs, kvs, kv, .cons h t, r => by
    show RKs K H (mergeT (putT kvs p.1 p.2) ps) (mergeK (putK kv q.1 q.2) qs)
    rw [← h.1]
    exact RKs.merge t (r.put p.1 h.2)
theorem RKs.length {κ : Type} {K : Zk} {H : Hp} : ∀ {kvs : List (κ × T)} {kv : List (κ × V)}, RKs K H kvs kv → kvs.length = kv.length
  | _, _, .nil => rfl
  | _, _, .cons _ t => by rw [List.length_cons, List.length_cons, RKs.length t]
def pairsE (K : Zk) (trs : List (TTE × TTE)) : List (TE × TE) := trs.map fun t => (LE K t.1, LE K t.2)
theorem tps_run {K : Zk} : ∀ (trs : List (TTE × TTE)) {σ : L2.St} {H : Hp} {ρ : Rho} {S : Sto} {Q : List (T × T) → Sto → Prop} {R : List (V × V) → Hp → Prop}, RelS K S H → RelE K H σ ρ → tps trs ρ S Q →
    (∀ ps S' qs H', Ext H H' → RelS K S' H' → RPs K H' ps qs → Q ps S' → R qs H') → tPairs (pairsE K trs) σ H R
  | [], σ, H, ρ, S, Q, R, rs, re, q, k => k [] S [] H (.refl _) rs .nil q
  | (tk, tv) :: r, σ, H, ρ, S, Q, R, rs, re, q, k => by
    show LE K tk σ H fun x H1 => LE K tv σ H1 fun y H2 => tPairs (pairsE K r) σ H2 fun ps H3 => R ((x, y) :: ps) H3
    refine LE.mk rs re q fun x S1 vx H1 e1 rs1 rx q1 => LE.mk rs1 (re.ext e1) q1 fun y S2 vy H2 e2 rs2 ry q2 => ?_
    refine tps_run r rs2 (re.ext (e1.trans e2)) q2 fun ps S3 qs H3 e3 rs3 rp q3 => ?_
    exact k _ _ _ _ ((e1.trans e2).trans e3) rs3 (.cons ⟨RT.ext (e2.trans e3) _ rx, RT.ext e3 _ ry⟩ rp) q3
/-- the pairs of a display -/
structure QPs (X : Cx) (pos : Pos) (keys : List (Option Expr)) (values : List Expr) (trs : List (TTE × TTE)) : Prop where
  run : PPs X pos keys values (pairsE (zx X) trs)
theorem qps_nil {pos : Pos} : QPs X pos [] [] [] := ⟨pps_nil⟩
theorem qps_cons {pos : Pos} {k v : Expr} {ks : List (Option Expr)} {vs : List Expr} {tk tv : TTE} {trs : List (TTE × TTE)} (hk : QE X k tk) (hv : QE X v tv) (hr : QPs X pos ks vs trs) : QPs X pos (some k :: ks) (v :: vs) ((tk, tv) :: trs) := ⟨pps_cons hk hv hr.run⟩
theorem q_disp {pos : Pos} {keys : List (Option Expr)} {values : List Expr} {trs : List (TTE × TTE)} (h : QPs X pos keys values trs) (hall : keys.all (·.isSome) = true := by rfl) (hl : keys.length = values.length := by rfl) (h0 : keys ≠ [] := by intro h; cases h)
    (h15 : keys.length ≤ 15 := by decide) : QE X (.Dict keys values pos) (tdisp trs) := by
  refine qe_of (pe_disp h.run hall hl h0 h15) fun σ H ρ S Q rs re q p hp => ?_
  have rs0 : RelS (zx X) (S.set p (.dk [])) (upd H p (.dK [])) := rs.put (.new hp) ⟨[], upd_same, .nil⟩
  refine tps_run trs rs0 (re.ext (.new hp)) (q p _ (rs.none_of hp) .of) fun ps S1 qs H1 e1 rs1 rp q1 => ?_
  obtain ⟨h1, q1⟩ := q1
  obtain ⟨kv0, h2, h3⟩ := rs1 p _ h1
  cases h3
  refine ⟨h2, ?_⟩
  split at q1
  · rename_i kvs e2
    obtain ⟨kv, g1, g2⟩ := keysOf_of rp e2
    have ew : Ext H1 (upd H1 p (.dK (mergeK [] kv))) := .write h2 (fun _ z => nomatch z) (fun _ _ z => nomatch z)
    refine ⟨kv, g1, by rw [← g2.length]; exact q1.1, ?_⟩
    exact ⟨.adr p, _, ((Ext.new hp).trans e1).trans ew, rs1.put (m := .dk (mergeT [] kvs)) ew ⟨_, upd_same, (g2.ext ew).merge .nil⟩, by rw [rt_adr], q1.2 _ .of⟩
  · exact q1.elim
end

/-! ### tests, connectives -/
def tand (t u : TTT) : TTT := fun ρ S Q => t ρ S fun c S1 => match c with | true => u ρ S1 Q | false => Q false S1
def tor (t u : TTT) : TTT := fun ρ S Q => t ρ S fun c S1 => match c with | true => Q true S1 | false => u ρ S1 Q
def tnot (t : TTT) : TTT := fun ρ S Q => t ρ S fun c S1 => Q (!c) S1
def tife (t : TTT) (a b : TTE) : TTE := fun ρ S Q => t ρ S fun c S1 => match c with | true => a ρ S1 Q | false => b ρ S1 Q
/-- and, or, not as values (bools) -/
def tandV (a b : TTE) : TTE := fun ρ S Q => a ρ S fun x S1 => match x with | .bl true => b ρ S1 Q | .bl false => Q (.bl false) S1 | _ => False
def torV (a b : TTE) : TTE := fun ρ S Q => a ρ S fun x S1 => match x with | .bl true => Q (.bl true) S1 | .bl false => b ρ S1 Q | _ => False
def tnotV (a : TTE) : TTE := fun ρ S Q => a ρ S fun x S1 => match x with | .bl c => Q (.bl (!c)) S1 | _ => False
section
variable {X : Cx} {a b c : Expr} {rest : List Expr} {pos : Pos} {ta tb' : TTE} {tA tB : TTT}
theorem t_val (h : QE X a ta) (he : ∀ whole, isTrue a X.env whole = (do let v ← whole; standAt a.pos; holding [v] (truthy v)) := by intro _; rfl) : QT X a (tq ta) :=
  qt_of (pt_val h he) fun σ H ρ S Q rs re q => LE.mk (Q := kq Q) rs re q fun r S' v H' e rs' rr q' => kq_of (WE.here e rs' rr q')
theorem w_and1 (ha : QT X a tA) : QW X (.BoolOp .And [a] pos) tA := pw_and1 ha
theorem w_or1 (ha : QT X a tA) : QW X (.BoolOp .Or [a] pos) tA := pw_or1 ha
theorem w_and (ha : QT X a tA) (hb : QW X (.BoolOp .And (b :: rest) pos) tB) : QW X (.BoolOp .And (a :: b :: rest) pos) (tand tA tB) :=
  qw_of (pw_and ha hb) fun σ H ρ S Q rs re q => LT.mk rs re q fun c S1 H1 e1 rs1 q1 => by
    cases c with
    | true => exact LT.mk rs1 (re.ext e1) q1 fun c S2 H2 e2 rs2 q2 => ⟨S2, e1.trans e2, rs2, q2⟩
    | false => exact ⟨S1, e1, rs1, q1⟩
theorem w_or (ha : QT X a tA) (hb : QW X (.BoolOp .Or (b :: rest) pos) tB) : QW X (.BoolOp .Or (a :: b :: rest) pos) (tor tA tB) :=
  qw_of (pw_or ha hb) fun σ H ρ S Q rs re q => LT.mk rs re q fun c S1 H1 e1 rs1 q1 => by
    cases c with
    | true => exact ⟨S1, e1, rs1, q1⟩
    | false => exact LT.mk rs1 (re.ext e1) q1 fun c S2 H2 e2 rs2 q2 => ⟨S2, e1.trans e2, rs2, q2⟩
theorem t_w (h : QW X a tA) : QT X a tA := h.pt
theorem t_not (ha : QT X a tA) : QT X (.UnaryOp .Not a pos) (tnot tA) :=
  qt_of (pt_not ha) fun σ H ρ S Q rs re q => LT.mk rs re q fun c S1 H1 e1 rs1 q1 => ⟨S1, e1, rs1, q1⟩
theorem q_ife {c : Expr} (hc : QT X c tA) (ha : QE X a ta) (hb : QE X b tb') : QE X (.IfExp c a b pos) (tife tA ta tb') :=
  qe_of (pe_ifExp hc ha hb) fun σ H ρ S Q rs re q => LT.mk rs re q fun c S1 H1 e1 rs1 q1 => by
    cases c with
    | true => exact LE.mk rs1 (re.ext e1) q1 fun r S2 v H2 e2 rs2 rr q2 => ⟨r, S2, e1.trans e2, rs2, rr, q2⟩
    | false => exact LE.mk rs1 (re.ext e1) q1 fun r S2 v H2 e2 rs2 rr q2 => ⟨r, S2, e1.trans e2, rs2, rr, q2⟩
theorem q_one {op} (h : QE X a ta) : QE X (.BoolOp op [a] pos) ta := pe_one h
theorem q_and (ha : QE X a ta) (hb : QE X (.BoolOp .And (b :: rest) pos) tb') : QE X (.BoolOp .And (a :: b :: rest) pos) (tandV ta tb') :=
  qe_of (pe_and ha hb) fun σ H ρ S Q rs re q => LE.mk rs re q fun r S1 v H1 e1 rs1 rr q1 => by
    cases r with
    | bl c =>
      rw [rt_bl] at rr
      refine ⟨c, rr, ?_⟩
      cases c with
      | true => exact LE.mk rs1 (re.ext e1) q1 fun r S2 v H2 e2 rs2 rr q2 => ⟨r, S2, e1.trans e2, rs2, rr, q2⟩
      | false => exact .here e1 rs1 (by rw [rt_bl]) q1
    | _ => exact q1.elim
theorem q_or (ha : QE X a ta) (hb : QE X (.BoolOp .Or (b :: rest) pos) tb') : QE X (.BoolOp .Or (a :: b :: rest) pos) (torV ta tb') :=
  qe_of (pe_or ha hb) fun σ H ρ S Q rs re q => LE.mk rs re q fun r S1 v H1 e1 rs1 rr q1 => by
    cases r with
    | bl c =>
      rw [rt_bl] at rr
      refine ⟨c, rr, ?_⟩
      cases c with
      | true => exact .here e1 rs1 (by rw [rt_bl]) q1
      | false => exact LE.mk rs1 (re.ext e1) q1 fun r S2 v H2 e2 rs2 rr q2 => ⟨r, S2, e1.trans e2, rs2, rr, q2⟩
    | _ => exact q1.elim
theorem q_not (ha : QE X a ta) : QE X (.UnaryOp .Not a pos) (tnotV ta) :=
  qe_of (pe_not ha) fun σ H ρ S Q rs re q => LE.mk rs re q fun r S1 v H1 e1 rs1 rr q1 => by
    cases r with
    | bl c => rw [rt_bl] at rr; exact ⟨c, rr, .here e1 rs1 (by rw [rt_bl]) q1⟩
    | _ => exact q1.elim
/-- -n -/
def tneg (a : TTE) : TTE := fun ρ S Q => a ρ S fun x S1 => match x with | .int i => Q (.int (-i)) S1 | _ => False
theorem q_neg (ha : QE X a ta) : QE X (.UnaryOp .USub a pos) (tneg ta) :=
  qe_of (pe_un un_neg ha) fun σ H ρ S Q rs re q => LE.mk rs re q fun r S1 v H1 e1 rs1 rr q1 => by
    cases r with
    | int i => rw [rt_int] at rr; exact ⟨i, rr, .here e1 rs1 (by rw [rt_int]) q1⟩
    | _ => exact q1.elim
end
end TL
set_option Elab.async false
set_option linter.all false
set_option maxRecDepth 100000
/-! TL5: statements, targets, loops, comprehensions over T. -/
namespace TL
open PySem PySem.Spec PyProof.Rows L2

/-! ### blocks -/
def tsNx : TTS := fun D ρ S => D.nx ρ S
def tsSeq (t u : TTS) : TTS := fun D ρ S => t { D with nx := u D } ρ S
def tsBrk : TTS := fun D ρ S => D.bk ρ S
def tsCt : TTS := fun D ρ S => D.ct ρ S
def tsDrop (te : TTE) : TTS := fun D ρ S => te ρ S fun _ S1 => D.nx ρ S1
def tsRet (te : TTE) : TTS := fun D ρ S => te ρ S D.rt
def tsRetN : TTS := fun D _ S => D.rt .non S
def tsIf (c : TTT) (t u : TTS) : TTS := fun D ρ S => c ρ S fun b S1 => match b with | true => t D ρ S1 | false => u D ρ S1
def tsAsg (te : TTE) (g : TTG) : TTS := fun D ρ S => te ρ S fun x S1 => g x ρ S1 D.nx
def tgN (i : Nat) : TTG := fun v ρ S Q => Q (ρ.set i (some v)) S
def tgsNil : TTGs := fun vs ρ S Q => match vs with | [] => Q ρ S | _ => False
def tgsCons (t : TTG) (u : TTGs) : TTGs := fun vs ρ S Q => match vs with | v :: r => t v ρ S fun ρ' S' => u r ρ' S' Q | [] => False
def tgTup (n : Nat) (t : TTGs) : TTG := fun v ρ S Q => match v with | .tup xs => xs.length = n ∧ t xs ρ S Q | _ => False
section
variable {X : Cx} {st : Stmt} {rest : List Stmt} {e : Expr} {te : TTE} {t u : TTS} {pos : Pos} {tc : TTT} {g : TTG}
theorem s_nil : QSs X [] tsNx := qss_of pss_nil fun σ H ρ S D rs re q => ⟨ρ, S, .refl _, rs, re, q⟩
theorem s_cons (h1 : QS X st t) (h2 : QSs X rest u) : QSs X (st :: rest) (tsSeq t u) :=
  qss_of (pss_cons h1 h2) fun σ H ρ S D rs re q => ⟨ρ, S, { D with nx := u D }, rs, re, q, fun σ' H' w => by
    obtain ⟨ρ', S', e, rs', re', q'⟩ := w
    exact LS.mk e rs' re' q', fun _ _ w => w, fun _ _ w => w, fun _ _ w => w⟩
theorem s_one (h1 : QS X st t) : QSs X [st] t := pss_one h1
theorem s_pass : QS X (.Pass pos) tsNx := qs_of ps_pass fun σ H ρ S D rs re q => ⟨ρ, S, .refl _, rs, re, q⟩
theorem s_brk : QS X (.Break pos) tsBrk := qs_of ps_break fun σ H ρ S D rs re q => ⟨ρ, S, .refl _, rs, re, q⟩
theorem s_ct : QS X (.Continue pos) tsCt := qs_of ps_continue fun σ H ρ S D rs re q => ⟨ρ, S, .refl _, rs, re, q⟩
theorem s_expr (he : QE X e te) (hs : swapsWith e none pos.line X.env = pure false := by rfl) : QS X (.Expr e pos) (tsDrop te) :=
  qs_of (ps_expr he hs) fun σ H ρ S D rs re q => LE.mk rs re q fun r S' v H' e rs' rr q' => ⟨ρ, S', e, rs', re.ext e, q'⟩
theorem s_ret (he : QE X e te) : QS X (.Return (some e) pos) (tsRet te) :=
  qs_of (ps_ret he) fun σ H ρ S D rs re q => LE.mk rs re q fun r S' v H' e rs' rr q' => ⟨r, S', e, rs', rr, q'⟩
theorem s_retN : QS X (.Return none pos) tsRetN := qs_of ps_retN fun σ H ρ S D rs re q => ⟨.non, S, .refl _, rs, by rw [rt_non], q⟩
theorem s_if {c : Expr} {a b : List Stmt} (hc : QT X c tc) (ha : QSs X a t) (hb : QSs X b u) : QS X (.If c a b pos) (tsIf tc t u) :=
  qs_of (ps_if hc ha hb) fun σ H ρ S D rs re q => LT.mk rs re q fun b S1 H1 e1 rs1 q1 => by
    cases b with
    | true => exact LS.mk e1 rs1 (re.ext e1) q1
    | false => exact LS.mk e1 rs1 (re.ext e1) q1
theorem g_name {i : Nat} {x : Str} (hN : X.N.Nodup) (hi : X.N[i]? = some x) (hx : Loc X.env.scope x) (hf : X.fn x = true ∨ X.env.scope.names.lookup x = some .local := by first | exact .inl rfl | exact .inr rfl | assumption) : QG X (.Name x pos) (tgN i) :=
  qg_of (pg_name hN hi hx hf) fun v σ H r ρ S Q rs re rr q => ⟨_, S, .refl _, rs, re.set rr i, q⟩
theorem gs_nil : QGs X [] tgsNil := qgs_of pgs_nil fun v σ H r ρ S Q rs re rr q => by
  cases r with
  | nil => rw [rts_nil] at rr; exact ⟨rr, ρ, S, .refl _, rs, re, q⟩
  | cons _ _ => exact q.elim
theorem gs_cons {es : List Expr} {gs : TTGs} (h1 : QG X e g) (h2 : QGs X es gs) (hs : (assignEach (e :: es) X.env).map (·.2) = assign e X.env :: (assignEach es X.env).map (·.2) := by rfl) : QGs X (e :: es) (tgsCons g gs) :=
  qgs_of (pgs_cons h1 h2 hs) fun v σ H r ρ S Q rs re rr q => by
    cases r with
    | nil => exact q.elim
    | cons t ts =>
      rw [rts_cons] at rr
      obtain ⟨w, ws, rfl, r1, r2⟩ := rr
      exact ⟨w, ws, rfl, t, ρ, S, _, rs, re, r1, q, fun σ' H' ⟨ρ', S', e, rs', re', q'⟩ => ⟨ts, ρ', S', Q, rs', re', RTs.ext e _ r2, q', fun _ _ w => w.ext e⟩⟩
theorem g_tup {es : List Expr} {k : Nat} {gs : TTGs} {n : Nat} (hc : X.calm = true) (h : QGs X es gs) (hn : (assignEach es X.env).length = n := by rfl) (hst : (assignEach es X.env).findIdx? (·.1) = none := by rfl) : QG X (.Tuple es k pos) (tgTup n gs) :=
  qg_of (pg_tup hc h hn hst) fun v σ H r ρ S Q rs re rr q => by
    cases r with
    | tup xs =>
      rw [rt_tup] at rr
      obtain ⟨a, vs, rfl, h1, h2⟩ := rr
      exact ⟨a, vs, rfl, h1.sqT, by rw [← h2.length]; exact q.1, xs, ρ, S, Q, rs, re, h2, q.2, fun _ _ w => w⟩
    | _ => exact q.elim
theorem s_asg {tg : Expr} (he : QE X e te) (hg : QG X tg g) (hs : swapsWithSole [tg] e pos.line X.env = pure false := by rfl) (hw : swappedStores [tg] e X.env = pure none := by rfl)
    (h1 : (assignEach [tg] X.env).map (·.2) = [assign tg X.env] := by rfl) : QS X (.Assign [tg] e pos) (tsAsg te g) :=
  qs_of (ps_asg he hg hs hw h1) fun σ H ρ S D rs re q => LE.mk rs re q fun r S' v H' e rs' rr q' => LG.mk e rs' (re.ext e) rr q'
theorem s_set {i : Nat} {x : Str} {pos' : Pos} (hN : X.N.Nodup) (hi : X.N[i]? = some x) (hx : Loc X.env.scope x) (he : QE X e te) (hs : swapsWith e (some (.Name x pos')) pos.line X.env = pure false := by rfl)
    (hf : X.fn x = true ∨ X.env.scope.names.lookup x = some .local := by first | exact .inl rfl | exact .inr rfl | assumption) : QS X (.Assign [.Name x pos'] e pos) (tsAsg te (tgN i)) :=
  qs_of (ps_set hN hi hx he hs hf) fun σ H ρ S D rs re q => LE.mk rs re q fun r S' v H' e rs' rr q' => ⟨_, S', e, rs', (re.ext e).set rr i, q'⟩
end

/-! ### o[i] = v -/
def oSet (o i v : T) (S : Sto) (Q : Sto → Prop) : Prop := match o with
  | .adr a => (match S a with
    | some (.lst xs) => (match i with | .int k => (match ixN xs.length k with | some j => Q (S.set a (.lst (xs.set j v))) | none => False) | _ => False)
    | some (.dk kvs) => (match keyT i with | some k => kvs.length < sizeLine ∧ Q (S.set a (.dk (putT kvs k v))) | none => False)
    | _ => False)
  | _ => False
def tgSub (to ti : TTE) : TTG := fun v ρ S Q => to ρ S fun o S1 => ti ρ S1 fun i S2 => oSet o i v S2 fun S3 => Q ρ S3
section
variable {X : Cx} {o i : Expr} {to ti : TTE} {pos : Pos}
def rSetD : TSet := fun o i v H Q => ∃ a H', o = .ref a ∧ DPut H a i v H' ∧ Q H'
theorem set_dict (hu : X.A.units + 1 < cLine) : PSet X rSetD := by
  intro pins s σ H o i v ov iv u Q I ro ri rv h
  obtain ⟨a, H', rfl, g, q⟩ := h
  cases ro
  exact d_setItem hu I g ri rv fun s' I' => ⟨H', I', q⟩
theorem psetOr {t u : TSet} (h : PSet X t) (h' : PSet X u) : PSet X (fun o i v H Q => t o i v H Q ∨ u o i v H Q) := by
  intro pins s σ H o i v ov iv w Q I ro ri rv q
  rcases q with q | q
  · exact h pins s σ H o i v ov iv w Q I ro ri rv q
  · exact h' pins s σ H o i v ov iv w Q I ro ri rv q
theorem g_sub (hu : X.A.units + 200 < cLine) (ho : QE X o to) (hi : QE X i ti)
    (ha : ∀ v, assign (.Subscript o i pos) X.env v = (do
      let ov ← holding [v] (eval o X.env)
      let iv ← holding [v, ov] (eval i X.env)
      standAt pos
      holding [v, ov, iv] (setItem ov iv v)
      release [v, ov, iv] []) := by intro _; rfl) : QG X (.Subscript o i pos) (tgSub to ti) := by
  refine qg_of (pg_sub ho hi (psetOr set_list (set_dict (by omega))) ha) fun v σ H r ρ S Q rs re rr q => LE.mk rs re q fun ot S1 ov H1 e1 rs1 r1 q1 => LE.mk rs1 (re.ext e1) q1 fun it S2 iv H2 e2 rs2 r2 q2 => ?_
  have rr := RT.ext (e1.trans e2) _ rr
  have r1 := RT.ext e2 _ r1
  have re2 := re.ext (e1.trans e2)
  unfold oSet at q2
  split at q2
  · rw [rt_adr] at r1
    split at q2
    · rename_i xs ex
      split at q2
      · split at q2
        · rename_i k j ej
          rw [rt_int] at r2
          obtain ⟨vs, h1, h2⟩ := rs2 _ _ ex
          have ew : Ext H2 (upd H2 _ (.lst (vs.set j v))) := .write h1 (fun _ z => nomatch z) (fun _ _ z => nomatch z)
          refine .inl ⟨_, vs, _, j, r1, r2, h1, by rw [← h2.length]; exact ej, ρ, _, (e1.trans e2).trans ew, rs2.put (m := .lst (xs.set j r)) ew ⟨_, upd_same, RTs.ext ew _ (RTs.set rr j h2)⟩, re2.ext ew, q2⟩
        · exact q2.elim
      · exact q2.elim
    · rename_i kvs ex
      split at q2
      · rename_i k ek
        obtain ⟨kv, h1, h2⟩ := rs2 _ _ ex
        have ew : Ext H2 (upd H2 _ (.dK (putK kv k v))) := .write h1 (fun _ z => nomatch z) (fun _ _ z => nomatch z)
        rw [keyT_of r2 ek]
        refine .inr ⟨_, _, r1, DPut.k h1 (by rw [← h2.length]; exact q2.1), ρ, _, (e1.trans e2).trans ew, rs2.put (m := .dk (putT kvs k r)) ew ⟨_, upd_same, (h2.put k rr).ext ew⟩, re2.ext ew, q2.2⟩
      · exact q2.elim
    · exact q2.elim
  · exact q2.elim
end

/-! ### for, while -/
def tsFor (w : TTI) (g : TTG) (tb : TTS) : TTS := fun D ρ S => w ρ S fun src S1 => ∃ I : Nat → Rho → Sto → Prop, I 0 ρ S1 ∧ ∀ i ρ' S', I i ρ' S' → src.live S' ∧ match src.items[i]? with
  | none => D.nx ρ' S'
  | some x => g x ρ' S' fun ρ2 S2 => tb { nx := I (i + 1), rt := D.rt, bk := D.nx, ct := I (i + 1) } ρ2 S2
def tsWhile (c : TTT) (tb : TTS) : TTS := fun D ρ S => ∃ W : Nat → Rho → Sto → Prop, (∃ m, W m ρ S) ∧ ∀ m ρ' S', W m ρ' S' → c ρ' S' fun b S2 => match b with
  | true => tb { nx := fun ρ3 S3 => ∃ m', m' < m ∧ W m' ρ3 S3, rt := D.rt, bk := D.nx, ct := fun ρ3 S3 => ∃ m', m' < m ∧ W m' ρ3 S3 } ρ' S2
  | false => D.nx ρ' S2
section
variable {X : Cx} {tg iter c : Expr} {body : List Stmt} {w : TTI} {g : TTG} {tb : TTS} {tc : TTT} {pos : Pos}
theorem s_for (hp : PassesOwn (model X.prog X.w) X.A X.env X.xe) (hc : X.calm = true) (hi : QI X tg iter w) (hg : QG X tg g) (hb : QSs X body tb) (hs : ∀ x, foldedSetIterable iter X.env x = pure x := by intro _; rfl) : QS X (.For tg iter body [] pos) (tsFor w g tb) := by
  refine qs_of (ps_for hp hc hi hg hb hs) fun σ H ρ S D rs re q => ⟨ρ, S, _, rs, re, q, fun src S1 J H1 e1 rs1 fit q1 => ?_⟩
  obtain ⟨I, i0, turn⟩ := q1
  refine ⟨fun i m σ' H' => m = src.items.length - i ∧ ∃ ρ' S', Ext H1 H' ∧ RelS (zx X) S' H' ∧ RelE (zx X) H' σ' ρ' ∧ I i ρ' S', ⟨_, rfl, ρ, S1, .refl _, rs1, re.ext e1, i0⟩, ?_⟩
  rintro i m σ' H' ⟨rfl, ρ', S', e2, rs2, re2, hI⟩
  obtain ⟨live, t⟩ := turn i ρ' S' hI
  cases ei : src.items[i]? with
  | none =>
    rw [ei] at t
    exact .inl ⟨fit.stop i S' H' rs2 e2 live ei, ρ', S', e1.trans e2, rs2, re2, t⟩
  | some x =>
    rw [ei] at t
    have hlt : i < src.items.length := (List.getElem?_eq_some_iff.mp ei).1
    obtain ⟨go, yl⟩ := fit.go i S' H' x rs2 e2 live ei
    refine .inr ⟨go, fun σ3 H3 => ∃ ρ3 S3, Ext H1 H3 ∧ RelS (zx X) S3 H3 ∧ RelE (zx X) H3 σ3 ρ3 ∧ I (i + 1) ρ3 S3, fun σ3 H3 ⟨ρ3, S3, a1, a2, a3, a4⟩ => ⟨_, by omega, rfl, ρ3, S3, a1, a2, a3, a4⟩, fun v H'' y => ?_⟩
    obtain ⟨e3, rs3, rx⟩ := yl v H'' y
    refine ⟨x, ρ', S', _, rs3, re2.ext e3, rx, t, fun σ4 H4 ⟨ρ4, S4, e4, rs4, re4, q4⟩ => ?_⟩
    have e14 := (e2.trans e3).trans e4
    refine ⟨ρ4, S4, _, rs4, re4, q4, fun σ5 H5 ⟨ρ5, S5, b1, b2, b3, b4⟩ => ⟨ρ5, S5, e14.trans b1, b2, b3, b4⟩, fun v H5 w => w.ext (e1.trans e14), fun σ5 H5 w => w.ext (e1.trans e14), fun σ5 H5 ⟨ρ5, S5, b1, b2, b3, b4⟩ => ⟨ρ5, S5, e14.trans b1, b2, b3, b4⟩⟩
theorem s_while (hp : PassesOwn (model X.prog X.w) X.A X.env X.xe) (hc : QT X c tc) (hb : QSs X body tb) : QS X (.While c body [] pos) (tsWhile tc tb) := by
  refine qs_of (ps_while hp hc hb) fun σ H ρ S D rs re q => ?_
  obtain ⟨W, ⟨m0, w0⟩, turn⟩ := q
  refine ⟨fun m σ' H' => ∃ ρ' S', Ext H H' ∧ RelS (zx X) S' H' ∧ RelE (zx X) H' σ' ρ' ∧ W m ρ' S', ⟨m0, ρ, S, .refl _, rs, re, w0⟩, ?_⟩
  rintro m σ' H' ⟨ρ', S', e1, rs1, re1, w1⟩
  refine LT.mk rs1 re1 (turn m ρ' S' w1) fun b S2 H2 e2 rs2 q2 => ?_
  cases b with
  | true =>
    refine ⟨fun σ3 H3 => ∃ ρ3 S3, Ext H H3 ∧ RelS (zx X) S3 H3 ∧ RelE (zx X) H3 σ3 ρ3 ∧ ∃ m', m' < m ∧ W m' ρ3 S3, fun σ3 H3 ⟨ρ3, S3, a1, a2, a3, m', hm, a4⟩ => ⟨m', hm, ρ3, S3, a1, a2, a3, a4⟩, ?_⟩
    have e12 := e1.trans e2
    exact ⟨ρ', S2, _, rs2, re1.ext e2, q2, fun σ5 H5 ⟨ρ5, S5, b1, b2, b3, b4⟩ => ⟨ρ5, S5, e12.trans b1, b2, b3, b4⟩, fun v H5 w => w.ext e12, fun σ5 H5 w => w.ext e12, fun σ5 H5 ⟨ρ5, S5, b1, b2, b3, b4⟩ => ⟨ρ5, S5, e12.trans b1, b2, b3, b4⟩⟩
  | false => exact ⟨ρ', S2, e1.trans e2, rs2, re1.ext e2, q2⟩
end

/-! ### comprehensions -/
theorem wipe_comm (σ : L2.St) (i : Nat) (x : Option V) : ∀ vs : List Nat, i ∉ vs → L2.wipe (σ.set i x) vs = (L2.wipe σ vs).set i x
  | [], _ => rfl
  | v :: vs, h => by
    unfold L2.wipe
    rw [wipe_comm σ i x vs (fun z => h (List.mem_cons_of_mem _ z)), List.set_comm _ _ (fun e => h (by rw [e]; exact List.mem_cons_self))]
theorem wipe_set (σ : L2.St) (i : Nat) (x : Option V) : ∀ vs : List Nat, i ∈ vs → L2.wipe (σ.set i x) vs = L2.wipe σ vs
  | [], h => by cases h
  | v :: vs, h => by
    unfold L2.wipe
    by_cases hm : i ∈ vs
    · rw [wipe_set σ i x vs hm]
    · have e : i = v := by
        rcases List.mem_cons.mp h with e | e
        · exact e
        · exact absurd e hm
      subst e
      rw [wipe_comm σ i x vs hm, List.set_set]
theorem wipe_wipe (σ : L2.St) (vs : List Nat) : ∀ us : List Nat, (∀ u ∈ us, u ∈ vs) → L2.wipe (L2.wipe σ us) vs = L2.wipe σ vs
  | [], _ => rfl
  | u :: us, h => by
    conv => lhs; arg 1; unfold L2.wipe
    rw [wipe_set _ _ _ vs (h u List.mem_cons_self), wipe_wipe σ vs us fun z hz => h z (List.mem_cons_of_mem _ hz)]
/-- what a comprehension's target does -/
structure TBind (K : Zk) (vs : List Nat) (g : TG) (bt : T → Rho → Option Rho) : Prop where
  run : ∀ x v σ H ρ ρ2 Q, RelE K H σ ρ → RT K H x v → bt x ρ = some ρ2 → (∀ σ2, RelE K H σ2 ρ2 → L2.wipe σ2 vs = L2.wipe σ vs → Q σ2 H) → g v σ H Q
def bt1 (i : Nat) : T → Rho → Option Rho := fun x ρ => some (ρ.set i (some x))
def setsT : List Nat → List T → Rho → Option Rho
  | [], [], ρ => some ρ
  | i :: is, x :: xs, ρ => setsT is xs (ρ.set i (some x))
  | _, _, _ => none
def btN (is : List Nat) : T → Rho → Option Rho := fun x ρ => match x with | .tup xs => setsT is xs ρ | _ => none
theorem tbind1 {K : Zk} {vs : List Nat} {i : Nat} (h : i ∈ vs := by decide) : TBind K vs (gName i) (bt1 i) := ⟨fun x v σ H ρ ρ2 Q re rx e k => by
  cases e
  exact k _ (re.set rx i) (wipe_set σ i _ vs h)⟩
def gNames : List Nat → TGs
  | [] => gNil
  | i :: is => gCons (gName i) (gNames is)
theorem sets_run {K : Zk} {vs : List Nat} : ∀ (is : List Nat) (xs : List T) (ws : List V) (σ : L2.St) (H : Hp) (ρ ρ2 : Rho) (Q : L2.St → Hp → Prop), (∀ i ∈ is, i ∈ vs) → RelE K H σ ρ → RTs K H xs ws → setsT is xs ρ = some ρ2 →
    (∀ σ2, RelE K H σ2 ρ2 → L2.wipe σ2 vs = L2.wipe σ vs → Q σ2 H) → gNames is ws σ H Q
  | [], [], ws, σ, H, ρ, ρ2, Q, hi, re, rx, e, k => by
    cases e
    rw [rts_nil] at rx
    exact ⟨rx, k _ re rfl⟩
  | [], _ :: _, ws, σ, H, ρ, ρ2, Q, hi, re, rx, e, k => by cases e
  | _ :: _, [], ws, σ, H, ρ, ρ2, Q, hi, re, rx, e, k => by cases e
  | i :: is, x :: xs, ws, σ, H, ρ, ρ2, Q, hi, re, rx, e, k => by
    rw [rts_cons] at rx
    obtain ⟨v, r, rfl, h1, h2⟩ := rx
    refine ⟨v, r, rfl, ?_⟩
    exact sets_run is xs r (σ.set i (some v)) H (ρ.set i (some x)) ρ2 Q (fun z hz => hi z (List.mem_cons_of_mem _ hz)) (re.set h1 i) h2 e fun σ2 r2 w2 => k σ2 r2 (w2.trans (wipe_set σ i _ vs (hi i List.mem_cons_self)))
theorem setsT_len : ∀ {is : List Nat} {xs : List T} {ρ ρ2 : Rho}, setsT is xs ρ = some ρ2 → xs.length = is.length
  | [], [], _, _, _ => rfl
  | [], _ :: _, _, _, e => by cases e
  | _ :: _, [], _, _, e => by cases e
  | i :: is, x :: xs, ρ, ρ2, e => by rw [List.length_cons, List.length_cons, setsT_len (is := is) (xs := xs) e]
theorem tbindN {K : Zk} {vs is : List Nat} {n : Nat} (hn : is.length = n) (h : ∀ i ∈ is, i ∈ vs := by decide) : TBind K vs (gTup K.K n (gNames is)) (btN is) := ⟨fun x v σ H ρ ρ2 Q re rx e k => by
  cases x with
  | tup xs =>
    rw [rt_tup] at rx
    obtain ⟨a, ws, rfl, h1, h2⟩ := rx
    have hl := setsT_len (is := is) (xs := xs) e
    exact ⟨a, ws, rfl, h1.sqT, by rw [← h2.length, hl, hn], sets_run is xs ws σ H ρ ρ2 Q h re h2 e k⟩
  | _ => cases e⟩
def tlc (w : TTI) (bt : T → Rho → Option Rho) (tt : TTT) (te : TTE) (vs : List Nat) : TTE := fun ρ S Q => w ρ S fun src S1 => ∀ D, S1 D = none → ∃ I : Nat → List T → Sto → Prop, (∀ S0, Upd S1 D (.lst []) S0 → I 0 [] S0) ∧ ∀ i acc S', I i acc S' → S' D = some (.lst acc) ∧ src.live S' ∧ match src.items[i]? with
  | none => Q (.adr D) S'
  | some x => (match bt x (wipeT ρ vs) with
    | some ρ2 => tt ρ2 S' fun b S3 => match b with
      | true => te ρ2 S3 fun y S4 => S4 D = some (.lst acc) ∧ acc.length < sizeLine ∧ ∀ S5, Upd S4 D (.lst (acc ++ [y])) S5 → I (i + 1) (acc ++ [y]) S5
      | false => I (i + 1) acc S3
    | none => False)
def ttYes : TTT := fun _ S Q => Q true S
abbrev QTs (X : Cx) (ifs : List Expr) (t : TTT) : Prop := PTs X ifs (LT (zx X) t)
section
variable {X : Cx} {elt tg iter : Expr} {ifs : List Expr} {scope : Scope} {own : List (Str × Nat)} {pos : Pos} {w : TTI} {g : TG} {bt : T → Rho → Option Rho} {tt : TTT} {te : TTE}
theorem ts_nil : QTs X [] ttYes := ⟨fun pins s σ H Q I h => by
  obtain ⟨ρ, S, Q', rs, re, q, m⟩ := h
  exact pts_nil.run pins s σ H Q I (m _ _ ⟨S, .refl _, rs, q⟩)⟩
theorem ts_one {c : Expr} {t : TTT} (h : QT X c t) : QTs X [c] t := pts_one h
theorem lc_read {K : Zk} {vs : List Nat} (tb : TBind K vs g bt) (σ : L2.St) (H : Hp) (ρ : Rho) (S : Sto) (Q : T → Sto → Prop) (R : VK) (rs : RelS K S H) (re : RelE K H σ ρ) (q : tlc w bt tt te vs ρ S Q) (hR : ∀ v H', WE K H Q v H' → R v H') :
    tLc (LI K w) g (LT K tt) (LE K te) vs σ H R := by
  refine ⟨ρ, S, _, rs, re, q, fun src S1 J H1 e1 rs1 fit q1 => ?_⟩
  intro D hD
  obtain ⟨I, i0, turn⟩ := q1 D (rs1.none_of hD)
  refine ⟨fun i m H' => m = src.items.length - i ∧ ∃ S' acc, Ext H1 H' ∧ RelS K S' H' ∧ I i acc S',
    ⟨_, rfl, _, [], .new hD, rs1.put (m := .lst []) (.new hD) ⟨[], upd_same, .nil⟩, i0 _ .of⟩, ?_⟩
  rintro i m H' ⟨rfl, S', acc, e2, rs2, hI⟩
  obtain ⟨hS, live, t⟩ := turn i acc S' hI
  cases ei : src.items[i]? with
  | none =>
    rw [ei] at t
    exact .inl ⟨fit.stop i S' H' rs2 e2 live ei, hR _ _ ⟨.adr D, _, e1.trans e2, rs2, by rw [rt_adr], t⟩⟩
  | some x =>
    rw [ei] at t
    have hlt : i < src.items.length := (List.getElem?_eq_some_iff.mp ei).1
    obtain ⟨go, yl⟩ := fit.go i S' H' x rs2 e2 live ei
    refine .inr ⟨go, fun H3 => ∃ S3 acc3, Ext H1 H3 ∧ RelS K S3 H3 ∧ I (i + 1) acc3 S3, fun H3 ⟨S3, acc3, a1, a2, a3⟩ => ⟨_, by omega, rfl, S3, acc3, a1, a2, a3⟩, fun v H'' y => ?_⟩
    obtain ⟨e3, rs3, rx⟩ := yl v H'' y
    simp only at t
    split at t
    · rename_i ρ2 eb
      refine tb.run x v _ H'' _ ρ2 _ ((re.ext ((e1.trans e2).trans e3)).wipe vs) rx eb fun σ2 re2 w2 => ⟨w2.trans (wipe_wipe σ vs vs fun _ h => h), ?_⟩
      refine LT.mk rs3 re2 t fun b S4 H4 e4 rs4 q4 => ?_
      cases b with
      | true =>
        refine LE.mk rs4 (re2.ext e4) q4 fun y S5 yv H5 e5 rs5 ry q5 => ?_
        obtain ⟨hD5, hz, hI5⟩ := q5
        obtain ⟨ws, h1, h2⟩ := rs5 D _ hD5
        have ew : Ext H5 (upd H5 D (.lst (ws ++ [yv]))) := .write h1 (fun _ z => nomatch z) (fun _ _ z => nomatch z)
        refine ⟨ws, h1, by rw [← h2.length]; exact hz, _, _, (((e2.trans e3).trans e4).trans e5).trans ew, rs5.put (m := .lst (acc ++ [y])) ew ⟨_, upd_same, RTs.ext ew _ (h2.append (.cons ry .nil))⟩, hI5 _ .of⟩
      | false => exact ⟨S4, acc, (e2.trans e3).trans e4, rs4, q4⟩
    · exact t.elim
theorem q_lc (hc : X.calm = true) (hN : X.N.Nodup) (hi : QI X tg iter w) (ok : BlkOk X.N X.env.scope scope own) (tb : TBind (zx X) (own.map (·.2)) g bt)
    (hg : ∀ (s : Shared) (H : Hp) (C : Addr) (cl : List (Str × Addr)) (fp : List Addr), PG (X.blk s H scope (compEnvC scope cl C X.env) fp) tg g) (ht : ∀ (s : Shared) (H : Hp) (C : Addr) (cl : List (Str × Addr)) (fp : List Addr), QTs (X.blk s H scope (compEnvC scope cl C X.env) fp) ifs tt)
    (he : ∀ (s : Shared) (H : Hp) (C : Addr) (cl : List (Str × Addr)) (fp : List Addr), QE (X.blk s H scope (compEnvC scope cl C X.env) fp) elt te) (hs : ∀ x, foldedSetIterable iter X.env x = pure x := by intro _; rfl) :
    QE X (.ListComp elt [⟨tg, iter, ifs, 0⟩] scope pos) (tlc w bt tt te (own.map (·.2))) :=
  qe_of (pe_lc hc hN hi ok hg ht he hs) fun σ H ρ S Q rs re q => lc_read tb σ H ρ S Q _ rs re q fun _ _ w => w
theorem s_setLc {i : Nat} {y : Str} {py : Pos} {spos : Pos} (hc : X.calm = true) (hN : X.N.Nodup) (hy : X.N[i]? = some y) (hyl : X.env.scope.names.lookup y = some .local)
    (hsw : swapsWith (.ListComp elt [⟨tg, iter, ifs, 0⟩] scope pos) (some (.Name y py)) spos.line X.env = pure true) (hi : QI X tg iter w) (ok : BlkOk X.N X.env.scope scope own) (tb : TBind (zx X) (own.map (·.2)) g bt)
    (hg : ∀ (s : Shared) (H : Hp) (C : Addr) (cl : List (Str × Addr)) (fp : List Addr), PG (X.blk s H scope (compEnvC scope cl C X.env) fp) tg g) (ht : ∀ (s : Shared) (H : Hp) (C : Addr) (cl : List (Str × Addr)) (fp : List Addr), QTs (X.blk s H scope (compEnvC scope cl C X.env) fp) ifs tt)
    (he : ∀ (s : Shared) (H : Hp) (C : Addr) (cl : List (Str × Addr)) (fp : List Addr), QE (X.blk s H scope (compEnvC scope cl C X.env) fp) elt te) (hs : ∀ x, foldedSetIterable iter X.env x = pure x := by intro _; rfl) :
    QS X (.Assign [.Name y py] (.ListComp elt [⟨tg, iter, ifs, 0⟩] scope pos) spos) (tsAsg (tlc w bt tt te (own.map (·.2))) (tgN i)) :=
  qs_of (ps_setLc hc hN hy hyl hsw hi ok hg ht he hs) fun σ H ρ S D rs re q => lc_read tb σ H ρ S _ _ rs re q fun v H' w => by
    obtain ⟨r, S', e, rs', rr, q'⟩ := w
    exact ⟨_, S', e, rs', (re.ext e).set rr i, q'⟩
end

/-! ### what is walked -/
section
variable {X : Cx} {tg l : Expr} {tl : TTE}
/-- a list or a tuple -/
def tiSeq (tl : TTE) : TTI := fun ρ S Q => tl ρ S fun x S1 => match x with
  | .tup xs => Q ⟨xs, fun _ => True⟩ S1
  | .adr a => (match lstAt S1 a with | some xs => Q ⟨xs, fun S => lstAt S a = some xs⟩ S1 | none => False)
  | _ => False
theorem fits_list {K : Zk} {H1 : Hp} {a : Addr} {xs : List T} : Fits K H1 (Itl K.K a) ⟨xs, fun S => lstAt S a = some xs⟩ where
  go := fun i S' H' x rs e live ei => by
    obtain ⟨vs, h1, h2⟩ := rs.list live
    obtain ⟨v, h3, h4⟩ := h2.get ei
    refine ⟨⟨vs, v, h1, h3⟩, fun w H'' y => ?_⟩
    obtain ⟨rfl, y⟩ := y
    have := y vs h1
    rw [h3] at this
    cases this
    exact ⟨.refl _, rs, h4⟩
  stop := fun i S' H' rs e live ei => by
    obtain ⟨vs, h1, h2⟩ := rs.list live
    refine ⟨vs, h1, ?_⟩
    rw [← h2.length]
    exact List.getElem?_eq_none_iff.mp ei
theorem fits_tup {K : Zk} {H1 : Hp} {a : Addr} {xs : List T} {vs : List V} (h1 : SqT K.K H1 a vs) (h2 : RTs K H1 xs vs) : Fits K H1 (Itt K.K a) ⟨xs, fun _ => True⟩ where
  go := fun i S' H' x rs e live ei => by
    have h2 := RTs.ext e _ h2
    have h1 := e.sqT h1
    obtain ⟨v, h3, h4⟩ := h2.get ei
    refine ⟨⟨vs, v, h1, h3⟩, fun w H'' y => ?_⟩
    obtain ⟨rfl, y⟩ := y
    have := y vs h1
    rw [h3] at this
    cases this
    exact ⟨.refl _, rs, h4⟩
  stop := fun i S' H' rs e live ei => by
    refine ⟨vs, e.sqT h1, ?_⟩
    rw [← h2.length]
    exact List.getElem?_eq_none_iff.mp ei
theorem i_seq (hl : QE X l tl) : QI X tg l (tiSeq tl) := by
  refine ⟨fun pins s σ H R I h => ?_⟩
  obtain ⟨ρ, S, Q', rs, re, q, m⟩ := h
  refine thn (hl.run pins s σ H _ I (LE.mk (R := WE (zx X) H _) rs re q fun r S' v H' e rs' rr q' => ⟨r, S', e, rs', rr, q'⟩)) fun v s1 ⟨x, H1, I1, r1, r, S1, e1, rs1, rr, q1⟩ => ?_
  dsimp only at q1
  split at q1
  · rename_i xs
    rw [rt_tup] at rr
    obtain ⟨a, vs, rfl, h1, h2⟩ := rr
    have P : PE X l (tC (.ref a)) → True := fun _ => trivial
    cases r1
    obtain ⟨its, rv, p, hz⟩ := I1.tuple h1.sqT
    refine wpAny_pyIter_tuple (show s1.heap.IsTuple a its.toArray from p) ?_
    refine ⟨s1.heap.objs.size, [s1.heap.objs.size], _, _, H1, rfl, I1.kept (t' := s1.toks) fun b o e => Heap.get?_push_of_some _ e, turn_tuple a _, ⟨_, Heap.get?_push_size _ rfl, rfl, rfl⟩, fun b hb => ?_, m _ _ _ _ e1 rs1 (fits_tup h1.sqT h2) q1⟩
    have e : b = s1.heap.objs.size := by simpa using hb
    subst e
    exact I1.fpOk (Nat.le_refl _) (I1.hok.fresh (Nat.le_refl _))
  · rename_i a
    rw [rt_adr] at rr
    subst rr
    split at q1
    · rename_i xs ex
      obtain ⟨vs, h1, h2⟩ := rs1.list ex
      cases r1
      obtain ⟨its, rv, p, hz⟩ := I1.list h1
      refine wpAny_pyIter_list p.isList ?_
      refine ⟨s1.heap.objs.size, [s1.heap.objs.size], _, _, H1, rfl, I1.kept (t' := s1.toks) fun b o e => Heap.get?_push_of_some _ e, turn_list _ _, ⟨_, Heap.get?_push_size _ rfl, rfl, rfl⟩, fun b hb => ?_, m _ _ _ _ e1 rs1 fits_list q1⟩
      have e : b = s1.heap.objs.size := by simpa using hb
      subst e
      exact I1.fpOk (Nat.le_refl _) (I1.hok.fresh (Nat.le_refl _))
    · exact q1.elim
  · exact q1.elim
/-- range(n), range(a, b) -/
def rngT (lo : Int) : Nat → List T
  | 0 => []
  | n + 1 => .int lo :: rngT (lo + 1) n
theorem rngT_len (lo : Int) (n : Nat) : (rngT lo n).length = n := by
  induction n generalizing lo with
  | zero => rfl
  | succ n ih => show (rngT (lo + 1) n).length + 1 = n + 1; rw [ih]
theorem rngT_get : ∀ (n : Nat) (lo : Int) (i : Nat), i < n → (rngT lo n)[i]? = some (.int (lo + i))
  | 0, _, _, h => absurd h (Nat.not_lt_zero _)
  | n + 1, lo, 0, _ => by simp [rngT]
  | n + 1, lo, i + 1, h => by
    show (rngT (lo + 1) n)[i]? = _
    rw [rngT_get n (lo + 1) i (by omega)]
    congr 2
    omega
theorem fits_rng {K : Zk} {H1 : Hp} {lo : Int} {n : Nat} : Fits K H1 (Itr lo n) ⟨rngT lo n, fun _ => True⟩ where
  go := fun i S' H' x rs e live ei => by
    have hlt : i < n := by
      have := (List.getElem?_eq_some_iff.mp ei).1
      rw [rngT_len] at this; exact this
    refine ⟨hlt, fun w H'' y => ?_⟩
    obtain ⟨rfl, rfl⟩ := y
    have ei : (rngT lo n)[i]? = some x := ei
    rw [rngT_get n lo i hlt] at ei
    cases ei
    exact ⟨.refl _, rs, by rw [rt_int]⟩
  stop := fun i S' H' rs e live ei => by
    have := List.getElem?_eq_none_iff.mp ei
    have h : (rngT lo n).length ≤ i := this
    rw [rngT_len] at h
    exact h
def tiRng1 (ta : TTA) : TTI := fun ρ S Q => ta ρ S fun vs S1 => match vs with
  | [.int j] => -(2 ^ 62) ≤ j ∧ j < 2 ^ 62 ∧ Q ⟨rngT 0 j.toNat, fun _ => True⟩ S1
  | _ => False
def tiRng2 (ta : TTA) : TTI := fun ρ S Q => ta ρ S fun vs S1 => match vs with
  | [.int i, .int j] => (-(2 ^ 62) ≤ i ∧ i < 2 ^ 62 ∧ -(2 ^ 62) ≤ j ∧ j < 2 ^ 62) ∧ Q ⟨rngT i (j - i).toNat, fun _ => True⟩ S1
  | _ => False
theorem RTs.one' {K : Zk} {H : Hp} {x : T} {vs : List V} (h : RTs K H [x] vs) : ∃ v, vs = [v] ∧ RT K H x v := by
  rw [rts_cons] at h
  obtain ⟨v, r, rfl, h1, h2⟩ := h
  rw [rts_nil] at h2
  subst h2
  exact ⟨v, rfl, h1⟩
theorem RTs.two' {K : Zk} {H : Hp} {x y : T} {vs : List V} (h : RTs K H [x, y] vs) : ∃ v w, vs = [v, w] ∧ RT K H x v ∧ RT K H y w := by
  rw [rts_cons] at h
  obtain ⟨v, r, rfl, h1, h2⟩ := h
  obtain ⟨w, rfl, h3⟩ := h2.one'
  exact ⟨v, w, rfl, h1, h3⟩
theorem i_range1 {a : Expr} {ta : TTA} {p pos : Pos} (hg : Gl X "range") (hm : X.mg "range" = none) (ha : QA X [a] ta) (hs : starEach [a] X.env = [(false, eval a X.env)] := by rfl) : QI X tg (.Call (.Name "range" p) [a] [] pos) (tiRng1 ta) :=
  qi_of (pi_range1 hg hm ha hs) fun σ H ρ S Q rs re q => LA.mk rs re q fun ts S1 vs H1 e1 rs1 rr q1 => by
    split at q1
    · obtain ⟨v, rfl, h1⟩ := rr.one'
      rw [rt_int] at h1
      subst h1
      exact ⟨_, rfl, q1.1, q1.2.1, _, S1, e1, rs1, fits_rng, q1.2.2⟩
    · exact q1.elim
theorem i_range2 {a b : Expr} {ta : TTA} {p pos : Pos} (hg : Gl X "range") (hm : X.mg "range" = none) (ha : QA X [a, b] ta) (hs : starEach [a, b] X.env = [(false, eval a X.env), (false, eval b X.env)] := by rfl) (hs2 : starEach [b] X.env = [(false, eval b X.env)] := by rfl) :
    QI X tg (.Call (.Name "range" p) [a, b] [] pos) (tiRng2 ta) :=
  qi_of (pi_range2 hg hm ha hs hs2) fun σ H ρ S Q rs re q => LA.mk rs re q fun ts S1 vs H1 e1 rs1 rr q1 => by
    split at q1
    · obtain ⟨v, w, rfl, h1, h2⟩ := rr.two'
      rw [rt_int] at h1 h2
      subst h1; subst h2
      exact ⟨_, _, rfl, q1.1, _, S1, e1, rs1, fits_rng, q1.2⟩
    · exact q1.elim
end
end TL
set_option Elab.async false
set_option linter.all false
set_option maxRecDepth 100000
set_option maxHeartbeats 1000000
/-! TLrev: list(reversed(a list)). -/
namespace TL
open PySem PySem.Spec PyProof.Rows L2
section
variable {prog : Program} {w : World} {A : Around} {E : Value → Shared → Prop} {s : Shared}
theorem extend_rev {R : Result → Shared → Prop} {it l : Addr} {items : Array Value} (hh : A.handled = none) (hit : s.heap.IsRevIter it l ((items.size : Int) - 1)) (hl : s.heap.IsList l items) (hne : l ≠ it) (hn : items.size ≤ sizeLine)
    (S : Addr) (hSi : S ≠ it) (hSl : S ≠ l) (res : Value) (c₀ : Nat) (hS : s.heap.get? S = some { cls := .type "list", data := .seq #[] c₀ })
    (hR : ∀ h' tk acc' c', (∀ b o, b ≠ S → b ≠ it → s.heap.get? b = some o → h'.get? b = some o) → h'.get? S = some { cls := .type "list", dict := none, data := .seq acc' c', slots := #[] } →
      ItemsOf (fun i v => items[items.size - 1 - i]? = some v) acc' items.size → R (.ok (.ret res)) { s with heap := h', toks := tk }) :
    wpAny (model prog w) A.in1 (Builtin.List.listExtendWith (.ref S) (.ref it) res)
      (fun fin s' => match fin with | .done f => R (.ok f) s' | .again c' => c'.quiet = true ∧ codeAny (model prog w) A c' R s') (fun e s' => R (.error e) s') s := by
  have W := (Walks.listRev (prog := prog) (w := w) (A := A.in1) hh it l hne items).toS
  have hSf : S ∉ [it, l] := by simp only [List.mem_cons, List.not_mem_nil, or_false, not_or]; exact ⟨hSi, hSl⟩
  have hT : s.TypeIs (.ref it) "list_reverseiterator" := hit.typeIs
  have h1 : Builtin.List.listSameRef (.ref S) (.ref it) = false := by simp [Builtin.List.listSameRef, hSi]
  unfold Builtin.List.listExtendWith
  refine wpAny_bind (wpAny_typeOf hT ?_)
  rw [if_neg (by rw [h1]; decide)]
  refine wpAny_bind (wpAny_pyIter_revIter hit ?_)
  refine wpAny_bind (wpAny_holding ?_)
  unfold Builtin.List.listLengthHint
  refine wpAny_bind (wpAny_specialOf hT RT.nolen_lri ?_)
  show wpAny _ A.in1 (specialOf (Value.ref it) (Str.ofString "__length_hint__") >>= _) _ _ _
  refine wpAny_bind (wpAny_specialOf hT RT.hint_lri ?_)
  generalize hid : ("list_reverseiterator.__length_hint__" : String) = id0
  wp_delta
  rw [show splitId id0 = some ("list_reverseiterator", "__length_hint__") from by subst hid; decide +kernel]
  subst hid
  refine wpAny_bind (wpAny_isInstance (b := true) hT (by rw [isSubtype_type]; kernel_rfl) ?_)
  refine wpAny_pure ?_
  rw [if_neg (by decide)]
  have e0 : ((items.size : Nat) : Int) - 1 - ((0 : Nat) : Int) = (items.size : Int) - 1 := by omega
  refine wpAny_pure ⟨plainId_quiet F.plain_extend_loop _, codeAny_extend_loopS W hn S hSf res items.size 0 _ _ c₀ rfl (Nat.zero_le _) ⟨Nat.zero_le _, by rw [e0]; exact hit, hl⟩ hS (ItemsOf.nil _) fun s' acc' c' hm hS' hacc => ?_⟩
  rw [Moved.eq_with hm]
  refine hR s'.heap s'.toks acc' c' (fun b o hb hbi e => hm.heap b o (fun hmem => ?_) e) hS' hacc
  rcases List.mem_cons.mp hmem with e' | hmem
  · exact hb e'
  · exact hbi (List.mem_singleton.mp hmem)
theorem call_list_rev {Q : Value → Shared → Prop} {it l : Addr} {items : Array Value} (hh : A.handled = none) (hit : s.heap.IsRevIter it l ((items.size : Int) - 1)) (hl : s.heap.IsList l items) (hne : l ≠ it) (hn : items.size ≤ sizeLine)
    (hQ : ∀ h' tk acc' c', (∀ b o, b ≠ it → s.heap.get? b = some o → h'.get? b = some o) → h'.get? s.heap.objs.size = some { cls := .type "list", dict := none, data := .seq acc' c', slots := #[] } →
      ItemsOf (fun i v => items[items.size - 1 - i]? = some v) acc' items.size → Q (.ref s.heap.objs.size) { s with heap := h', toks := tk }) :
    wpAny (model prog w) A (call (.type "list") [.ref it]) Q E s := by
  refine callType_codes (Q₁ := fun obj s₁ => obj = .ref s.heap.objs.size ∧ s₁ = { s with heap := s.heap.push { cls := .type "list", data := .seq #[] } }) PySem.F.called_list (PySem.F.typeCall_list_1 _) PySem.F.entry_list_init
    (code_list_new _ ⟨rfl, rfl⟩) fun obj s₁ h₁ => ?_
  obtain ⟨rfl, rfl⟩ := h₁
  have hS : (s.heap.push { cls := .type "list", data := .seq #[] }).get? s.heap.objs.size = some { cls := .type "list", data := .seq #[] } := Heap.get?_push_size _ rfl
  obtain ⟨oi, hoi, _⟩ := id hit
  obtain ⟨ol, hol, _⟩ := id hl
  have hSi : s.heap.objs.size ≠ it := Nat.ne_of_gt (Heap.lt_size hoi)
  have hSl : s.heap.objs.size ≠ l := Nat.ne_of_gt (Heap.lt_size hol)
  have hit1 : (s.heap.push { cls := .type "list", data := .seq #[] }).IsRevIter it l ((items.size : Int) - 1) := hit.at fun o e => Heap.get?_push_of_some _ e
  have hl1 : (s.heap.push { cls := .type "list", data := .seq #[] }).IsList l items := hl.push _
  refine ⟨⟨_, hS, rfl⟩, PySem.F.args_list_init_2 _ _, ?_⟩
  generalize hh0 : s.heap.push { cls := .type "list", data := .seq #[] } = h0 at *
  show wpAny _ _ (do let old ← Builtin.List.listItems (.ref s.heap.objs.size); Builtin.List.listUpdate (.ref s.heap.objs.size) (fun _ => #[]); letGo old.toList.reverse; Builtin.List.listExtendWith (.ref s.heap.objs.size) (.ref it) .none) _ _ _
  refine wpAny_bind ?_
  unfold Builtin.List.listItems
  refine wpAny_bind (wpAny_seqItems hS rfl (wpAny_pure ?_))
  show wpAny _ _ (updateSeq s.heap.objs.size (fun _ => #[]) >>= fun _ => letGo (#[] : Array Value).toList.reverse >>= fun _ => Builtin.List.listExtendWith (.ref s.heap.objs.size) (.ref it) .none) _ _ _
  refine wpAny_bind (wpAny_updateSeq hS rfl ?_)
  have hS₂ := Heap.get?_update_self (Obj.mapSeq (fun _ => (#[] : Array Value))) hS rfl
  have oth : ∀ b o, b ≠ s.heap.objs.size → h0.get? b = some o → (h0.update s.heap.objs.size (Obj.mapSeq (fun _ => (#[] : Array Value)))).get? b = some o :=
    fun b o hb e => (Heap.get?_update_other _ _ (Ne.symm hb)).trans e
  refine wpAny_bind (wpAny_letGo ?_)
  refine extend_rev (A := A.in1) hh (hit1.at fun o e => oth it o hSi.symm e) (by
    obtain ⟨o, a1, a2⟩ := hl1
    exact ⟨o, oth l o hSl.symm a1, a2⟩) hne hn s.heap.objs.size hSi hSl .none _ hS₂ fun h' tk acc' c' hk hS' hacc => ?_
  refine ⟨rfl, hQ h' tk acc' c' (fun b o hb e => ?_) hS' hacc⟩
  have hlt := Nat.ne_of_lt (Heap.lt_size e)
  refine hk b o hlt hb (oth b o hlt ?_)
  rw [← hh0]
  exact Heap.get?_push_of_some _ e
end
section
variable {X : Cx}
def tLstRev (K : PySem.W.Frag) (te : TE) : TE := fun σ H Q => te σ H fun v H1 => ∃ (a : Addr) (xs : List V), v = .ref a ∧ SqL K H1 a xs ∧ ∀ q, H1 q = none → Q (.ref q) (upd H1 q (.lst xs.reverse))
theorem pe_lstRev {e : Expr} {te : TE} {p p2 pos pos2 : Pos} (hc : X.calm = true) (hg : Gl X "list") (hm : X.mg "list" = none) (hg2 : Gl X "reversed") (hm2 : X.mg "reversed" = none) (he : PE X e te)
    (hs : starEach [e] X.env = (false, eval e X.env) :: starEach [] X.env := by rfl)
    (hs2 : starEach [.Call (.Name "reversed" p2) [e] [] pos2] X.env = (false, eval (.Call (.Name "reversed" p2) [e] [] pos2) X.env) :: starEach [] X.env := by rfl) :
    PE X (.Call (.Name "list" p) [.Call (.Name "reversed" p2) [e] [] pos2] [] pos) (tLstRev X.K te) := by
  refine ⟨fun pins s σ H Q I h => ?_⟩
  refine Call_ (ld_blt I hg hm boot_list (PyProof.Rows.callWith_type1 (args_cons (Call_ (ld_blt I hg2 hm2 PyProof.Rows.boot_reversed (PyProof.Rows.callWith_type1 (args_cons (thn (he.run pins s σ H _ I h) fun u s1 ⟨v, H1, I1, r1, q1⟩ => args_nil ?_) hs) hs rfl))) hs2) hs2 rfl))
  obtain ⟨a, xs, ev, hq, q⟩ := q1
  subst ev
  obtain rfl : u = Value.ref a := r1
  obtain ⟨its, rv, p', hz⟩ := I1.list hq
  refine call_reversed_list p'.isList (args_nil ?_)
  have k0 : ∀ b o, s1.heap.get? b = some o → (s1.heap.push (revObj a ((its.toArray.size : Int) - 1))).get? b = some o := fun b o e => Heap.get?_push_of_some _ e
  have I2 : Inv X pins σ H1 { s1 with heap := s1.heap.push (revObj a ((its.toArray.size : Int) - 1)) } := I1.kept (t' := s1.toks) k0
  obtain ⟨f0, f1, f2, f3, f4, f5⟩ := I1.fpOk (H' := H1) (b := s1.heap.objs.size) (Nat.le_refl _) (I1.hok.fresh (Nat.le_refl _))
  have hl := p'.isList
  obtain ⟨ol, hol, _⟩ := id hl
  have hne : a ≠ s1.heap.objs.size := Nat.ne_of_lt (Heap.lt_size hol)
  have hn : its.toArray.size ≤ sizeLine := by rw [List.size_toArray, ← rv.length]; exact hz
  refine call_list_rev (s := { s1 with heap := s1.heap.push (revObj a ((its.toArray.size : Int) - 1)) }) (I1.ok.hd hc) ⟨_, Heap.get?_push_size _ rfl, rfl, rfl⟩ (hl.push _) hne hn fun h' tk acc c hk hS hi => ?_
  have I3 : Inv X pins σ H1 { s1 with heap := h', toks := tk } := I2.turned (t' := tk) (fun b o hb e => hk b o hb e) f0 f1 f3 f4 f5
  have hfr : H1 (s1.heap.push (revObj a ((its.toArray.size : Int) - 1))).objs.size = none := I2.hok.fresh (Nat.le_refl _)
  refine ⟨.ref _, upd H1 (s1.heap.push (revObj a ((its.toArray.size : Int) - 1))).objs.size (.lst xs.reverse), ?_, rfl, q _ hfr⟩
  have hv := RT.vals_rev rv hi
  have obj : ObjOk X.prog X.w (upd H1 (s1.heap.push (revObj a ((its.toArray.size : Int) - 1))).objs.size (.lst xs.reverse)) h' (s1.heap.push (revObj a ((its.toArray.size : Int) - 1))).objs.size (.lst xs.reverse) :=
    ⟨by rw [List.length_reverse]; exact hz, acc.toList, c, hv, by rw [Array.toArray_toList]; exact hS⟩
  refine I1.turnedNew (t' := tk) (ch := [s1.heap.objs.size]) (fun b o hb e => hk b o (fun z => hb (by rw [z]; exact List.mem_singleton.mpr rfl)) (k0 b o e)) (fun b hb => ?_) ?_ obj
  · rw [List.mem_singleton.mp hb]
    exact ⟨f0, f1, f2, f3, f4, f5⟩
  · show _ ≤ (s1.heap.objs.push _).size
    rw [Array.size_push]
    exact Nat.le_succ _
end
end TL
set_option Elab.async false
set_option linter.all false
set_option maxRecDepth 100000
set_option maxHeartbeats 1000000
/-! TL6: calls of the text's own functions, with no guard under way; the end. -/
namespace TL
open PySem PySem.Spec PyProof.Rows L2

abbrev TSp := List T → Sto → (T → Sto → Prop) → Prop
def liftSp (K : Zk) (sp : TSp) (vs : List V) (H : Hp) (Q : VK) : Prop := ∃ ts S Q', RelS K S H ∧ RTs K H ts vs ∧ sp ts S Q' ∧ ∀ v H', WE K H Q' v H' → Q v H'
/-- what a function of the text answers: by its name, with room k -/
structure Cal (P : Program) (w : World) (K : PySem.W.Frag) (mg : Str → Option Value) (base : Heap) (k : Nat) (x : Str) (n : Nat) (sp : TSp) : Prop where
  ex : ∃ (f : Addr) (fd : FuncData) (ps : List Str), ps.length = n ∧ mg x = some (.ref f) ∧ PySem.W.keepIn K (.ref f) = true ∧ Binds K fd ps [] ∧
    ∀ (A : Around) (outer : List Env) (s : Shared) (H : Hp) (args : Args) (us : List Value) (vs : List V) (Q : VK), Room k A → A.guards = some [] → Env0 P w K mg base A outer s H → BindsTo s fd args (ps.zip us) → Vals vs us → vs.length = n → liftSp ⟨P, w, K⟩ sp vs H Q →
      codeAny (model P w) A (.call (.ref f) args) (CR CX0 outer P w H s Q (fun _ _ _ => False)) s
section
variable {P : Program} {w : World} {K : PySem.W.Frag} {mg : Str → Option Value} {base : Heap} {j k n : Nat} {x : Str} {sp sp' : TSp}
theorem Cal.mono (C : Cal P w K mg base j x n sp) (h : j ≤ k) : Cal P w K mg base k x n sp := by
  obtain ⟨f, fd, ps, h1, h2, h3, h4, h5⟩ := C.ex
  exact ⟨f, fd, ps, h1, h2, h3, h4, fun A outer s H args us vs Q hr => h5 A outer s H args us vs Q (hr.mono h)⟩
theorem Cal.imp (C : Cal P w K mg base k x n sp) (h : ∀ ts S Q, sp' ts S Q → sp ts S Q) : Cal P w K mg base k x n sp' := by
  obtain ⟨f, fd, ps, h1, h2, h3, h4, h5⟩ := C.ex
  exact ⟨f, fd, ps, h1, h2, h3, h4, fun A outer s H args us vs Q hr hg e0 hb hv hl ⟨ts, S, Q', a, b, c, d⟩ => h5 A outer s H args us vs Q hr hg e0 hb hv hl ⟨ts, S, Q', a, b, h _ _ _ c, d⟩⟩
end
def tcall (n : Nat) (sp : TSp) (t : TTA) : TTE := fun ρ S Q => t ρ S fun vs S1 => vs.length = n ∧ sp vs S1 Q
section
variable {X : Cx} {x : Str} {p pos : Pos} {e : Expr} {es : List Expr} {t : TTA} {n k : Nat} {sp : TSp}
theorem q_call (C : Cal X.prog X.w X.K X.mg X.base k x n sp) (hr : Room k X.A) (hgd : X.A.guards = some []) (hg : Gl X x) (ha : QA X (e :: es) t)
    (hdb : (x == ("__debug__" : Str)) = false := by decide) (he : starEach (e :: es) X.env = (false, eval e X.env) :: starEach es X.env := by rfl) (hpl : (backTo pos (starEach es X.env)).any (·.1) = false := by rfl) :
    QE X (.Call (.Name x p) (e :: es) [] pos) (tcall n sp t) := by
  obtain ⟨f, fd, ps, h1, hm, hk, hb, h5⟩ := C.ex
  refine ⟨fun pins s σ H R I h => ?_⟩
  obtain ⟨ρ, S, Q', rs, re, q, m⟩ := h
  refine wpAny_Call_Name_kw (ld_glob I hg hm ?_ hdb)
  refine PySem.W.callWith_K (h₀ := X.base) I.ok.mod.kin hk (thn (ha.run pos pins s σ H _ I (LA.mk (R := WA (zx X) H _) rs re q fun r S' v H' e1 r1 r2 r3 => ⟨r, S', e1, r1, r2, r3⟩)) fun us s1 ⟨vs, H1, I1, r, ⟨ts, S1, e1, rs1, rr, hl, q1⟩⟩ => ⟨I1.kIn, ?_⟩) he hpl
  have hln : us.length = ps.length := by rw [← r.length, ← rr.length, hl, h1]
  have hbb := hb s1 us I1.kIn (by rw [List.append_nil]; exact hln)
  rw [List.append_nil] at hbb
  refine wpAny_call (codeAny_mono (h5 X.A X.stack s1 H1 ⟨us, []⟩ us vs R hr hgd I1.env0 hbb r (by rw [← rr.length]; exact hl) ⟨ts, S1, Q', rs1, rr, q1, fun v H' w => m v H' (w.ext e1)⟩) fun r s' hq => ?_)
  cases r with
  | error e => exact False.elim hq
  | ok fl =>
    cases fl with
    | ret u => exact I1.after hq
    | next => exact False.elim hq
    | brk => exact False.elim hq
    | cont => exact False.elim hq
end

/-! ### a def -/
def endT (Q : T → Sto → Prop) : EndsT := { nx := fun _ S => Q .non S, rt := Q, bk := fun _ _ => False, ct := fun _ _ => False }
section
variable {P : Program} {w : World} {K : PySem.W.Frag} {mg : Str → Option Value} {base : Heap}
theorem cal_def {x : Str} {st : Stmt} {f : Addr} {fd : FuncData} {N ps : List Str} {k : Nat} {sp : TSp} {t : TTS} (F : Fun K x x st f fd) (hm : mg x = some (.ref f)) (S : FnScope N ps (defScope st))
    (hb : Binds K fd ps [])
    (hbody : ∀ (cdv : Value) (A : Around) (outer : List Env) (s : Shared) (H : Hp) (E : XK), Room k (A.deeper (envOfC x (defScope st) s.heap.objs.size f cdv)) → (A.deeper (envOfC x (defScope st) s.heap.objs.size f cdv)).guards = some [] →
      QSs (cxOf CX0 P w K mg base N x (defScope st) f cdv A outer s H E).nox (defBody st) t)
    (vc : ∀ ts S Q, ts.length = ps.length → sp ts S Q → t (endT Q) (startT N.length ts) S) : Cal P w K mg base (k + 1) x ps.length sp := by
  obtain ⟨oc, od, kV, doc, pm, an, cdv, ct, osl, rfl, lk, hcd⟩ := F.ex
  refine ⟨f, _, ps, rfl, hm, F.kp, hb, fun A outer s H args us vs Q hr hgd e0 hb r hl hsp => ?_⟩
  obtain ⟨ts, St, Q', rs, rr, q, m⟩ := hsp
  have KX : K.In s.heap := e0.mod.kin.keeps fun b o e => (e0.bs b o e).1
  have lim : s.heap.NoLimit := e0.mod.nolimit.keeps fun b o e => (e0.bs b o e).1
  have hkind : ∀ y ∈ ps.zip us, (defScope st).names.lookup y.1 = some .local ∨ ((defScope st).names.lookup y.1 = some .cell ∧ ((cellsFrom (s.heap.objs.size + 1) (defScope st).names []).lookup y.1).isSome = true) := fun ⟨n, v⟩ hy => by
    rcases S.par n (List.of_mem_zip hy).1 with q | q
    · exact .inl q
    · exact .inr ⟨q, PySem.W.cellsFrom_some _ _ _ (.inl q)⟩
  refine codeAny_call_function hr.depth (KX _ _ lk) rfl S.co S.gen rfl (PySem.W.codeRec_of KX hcd) (hb _ _ _ _ ?_)
  refine wpAny_newFunctionEnv_cells S.kind hkind fun env he s1 xc => ?_
  subst he
  refine ⟨lim.keeps xc.toInCall.keep, codeAny_func ?_⟩
  have ht := hbody cdv A outer s H (fun _ _ _ => False) (hr.deeper _) hgd
  have hq : LS ⟨P, w, K⟩ t { nx := fun _ H' => Q .non H', rt := Q } (start N vs) H := by
    refine ⟨startT N.length ts, St, endT Q', rs, .start rr, vc ts St Q' (by rw [rr.length, hl]) q, fun σ' H' w => ?_, m, fun σ' H' w => ?_, fun σ' H' w => ?_⟩
    · obtain ⟨ρ', S', a, b, c, d⟩ := w
      exact m _ _ ⟨.non, S', a, b, by rw [rt_non], d⟩
    · obtain ⟨_, _, _, _, _, d⟩ := w; exact d.elim
    · obtain ⟨_, _, _, _, _, d⟩ := w; exact d.elim
  have I : Inv (cxOf CX0 P w K mg base N x (defScope st) f cdv A outer s H fun _ _ _ => False) [] (start N vs) H s1 := inv_start S hr.hd e0 hl r xc
  refine wpAny_mono (ht.nox.run [] s1 (start N vs) H _ I hq) (fun fl s' hs => ?_) fun e s' hs => hs
  have fin : ∀ {σ' : L2.St} {H' : Hp} {v : V} {u : Value}, Inv (cxOf CX0 P w K mg base N x (defScope st) f cdv A outer s H fun _ _ _ => False) [] σ' H' s' → RelV v u → Q v H' → CE outer P w H s Q u s' :=
    fun {σ' H' v u} J rv q => ⟨v, H', J.os, J.bare, J.base, J.hok, rv, q⟩
  cases fl with
  | ret u =>
    obtain ⟨v, σ', H', J, rv, q⟩ := hs
    exact fin J rv q
  | next =>
    obtain ⟨σ', H', J, q⟩ := hs
    exact fin (v := V.non) (u := Value.none) J rfl q
  | brk =>
    obtain ⟨_, _, _, q⟩ := hs
    exact False.elim q
  | cont =>
    obtain ⟨_, _, _, q⟩ := hs
    exact False.elim q
end

/-! ### the end: a law's promise at the heap behind the top -/
section
/-- nothing is tracked but the script -/
theorem law_endG {P : Program} {w : World} {K : PySem.W.Frag} {mg mb : Str → Option Value} {k : Nat} {fa a : Addr} {sp : TSp} {x : Str} {s₁ : Shared} {vs : List Value} {ns : List Int}
    (KX : K.In s₁.heap) (hns : s₁.heap.Ns mainGlobals mg) (hb : s₁.heap.Ns builtinsNs mb) (hbb : ∀ x : Str, x ≠ "__name__" → mb x = bootBuiltins x) (hlim : s₁.heap.NoLimit) (hg : s₁.gens = #[])
    (ha : s₁.heap.get? a = some { cls := .type "list", data := .seq vs.toArray }) (hi : IntsAre vs ns) (hl : ns.length ≤ sizeLine) (hr : Room k callerA)
    (hmx : mg x = some (.ref fa)) (F : ∀ base : Heap, K.In base → base.Ns mainGlobals mg → Cal P w K mg base k x 1 sp)
    (hsp : sp [.fl (ns.map T.int)] (fun _ => none) (fun v _ => v = .bl true)) :
    codeAny (model P w) callerA (.call (.ref fa) ⟨[.ref a], []⟩) (fun r s' => r = .ok (.ret (.bool true)) ∧ OldK s₁.heap s'.heap ∧ s'.os = s₁.os ∧ AllBare s'.gens) s₁ := by
  have rv := vals_ints hi
  have lenV := hi.length
  have core : ∀ H : Hp, Only H → SqF K H a (ns.map V.int) → HOk P w H s₁.heap → (∀ b, H b ≠ none → b = a) → (H a ≠ none → K.lookup a = none) →
      codeAny (model P w) callerA (.call (.ref fa) ⟨[.ref a], []⟩) (fun r s' => r = .ok (.ret (.bool true)) ∧ OldK s₁.heap s'.heap ∧ s'.os = s₁.os ∧ AllBare s'.gens) s₁ := by
    intro H hO hS hok hA hK
    have base_of : ∀ {b : Addr} {o : Obj}, s₁.heap.get? b = some o → H b = none → (hidT s₁.heap H).get? b = some o := fun e n => hidT_get e n
    have noA : ∀ {b : Addr} {o : Obj} {es : Array DictEntry} {ep : Nat}, s₁.heap.get? b = some o → o.data = .dict es ep → H b = none := fun {b o es ep} e d => by
      cases q : H b with
      | none => rfl
      | some u =>
        have e' : b = a := hA b (by rw [q]; simp)
        subst e'
        rw [ha] at e; cases e
        have d' : Data.seq vs.toArray _ = Data.dict es ep := d
        cases d'
    have nsK : ∀ {b : Addr} {m : Str → Option Value}, s₁.heap.Ns b m → (hidT s₁.heap H).Ns b m := fun {b m} ⟨o, es, ep, e, d, r⟩ => ⟨o, es, ep, base_of e (noA e d), d, r⟩
    have hKb : K.In (hidT s₁.heap H) := fun b o e => base_of (KX b o e) (by
      cases q : H b with
      | none => rfl
      | some u =>
        have e' : b = a := hA b (by rw [q]; simp)
        subst e'
        rw [hK (by rw [q]; simp)] at e; cases e)
    have hM : Mod K mg (hidT s₁.heap H) := ⟨hKb, nsK hns, ⟨mb, nsK hb, hbb⟩, let ⟨mc, h1, h2⟩ := hlim; ⟨mc, nsK h1, h2⟩⟩
    have e0 : Env0 P w K mg (hidT s₁.heap H) callerA [] s₁ H := ⟨rfl, hM, fun b o e => of_hidT e, Nat.le_of_eq (hidT_size _ _), trivial, fun b hb => absurd (show b ∈ ([] : List Addr) from hb) (by simp), hok, .of_eq hg⟩
    obtain ⟨f, fd, ps, hps, hmf, hkp, hbd, hrun⟩ := (F _ hKb (nsK hns)).ex
    have ef : f = fa := by rw [hmx] at hmf; cases hmf; rfl
    subst ef
    have hbb := hbd s₁ [.ref a] KX (by rw [hps]; rfl)
    rw [List.append_nil] at hbb
    refine codeAny_mono (hrun callerA [] s₁ H ⟨[.ref a], []⟩ [.ref a] [.ref a] (fun v _ => v = .bl true) hr rfl e0 hbb (.cons rfl .nil) rfl ⟨[.fl (ns.map T.int)], fun _ => none, fun v _ => v = .bl true, fun b o e => (by cases e), RTs.cons (by rw [rt_fl]; exact ⟨a, _, rfl, hS, RTs.of_ints⟩) RTs.nil, hsp, fun v H' w => ?_⟩) fun r s' h => ?_
    · obtain ⟨r, S', _, _, rr, q⟩ := w
      subst q
      rw [rt_bl] at rr
      exact rr
    · cases r with
      | error e => exact False.elim h
      | ok fl =>
        cases fl with
        | next => exact False.elim h
        | brk => exact False.elim h
        | cont => exact False.elim h
        | ret u =>
          obtain ⟨v, H', os, bare, un, hok', r', q⟩ := h
          have q' : v = .bl true := q
          subst q'
          obtain rfl : u = Value.bool true := r'
          refine ⟨rfl, OldK.of_keep fun b o e => ?_, os, bare⟩
          cases q : H b with
          | none => exact un.keep b o e q (by intro z; exact absurd (show b ∈ ([] : List Addr) from z) (by simp)) (by simp)
          | some u =>
            rcases hO b with z | ⟨ob, xs, z⟩
            · rw [q] at z; cases z
            · have z2 := un.frzs b ob _ z
              obtain ⟨e1, _⟩ := hok b _ z
              obtain ⟨e2, _⟩ := hok' b _ z2
              rw [e] at e1; cases e1
              exact e2
  cases hk : K.lookup a with
  | some o =>
    have e := KX a o hk
    rw [ha] at e
    cases e
    exact core (fun _ => none) (fun _ => .inl rfl) (.inr ⟨_, vs.toArray, _, hk, rfl, rfl, rfl, by rw [List.size_toArray, lenV]; exact hl, by simpa using rv⟩) (fun b u z => by have z' : (none : Option HO) = some u := z; cases z') (fun b z => absurd rfl z) fun z => absurd rfl z
  | none =>
    refine core (fun b => if b = a then some (.frz { cls := .type "list", data := .seq vs.toArray } (.lst (ns.map V.int))) else none) (fun b => ?_) (.inl ⟨{ cls := .type "list", data := .seq vs.toArray }, if_pos rfl⟩) (fun b u z => ?_) (fun b z => ?_) fun _ => hk
    · by_cases hb : b = a
      · exact .inr ⟨_, _, if_pos hb⟩
      · exact .inl (if_neg hb)
    · by_cases hb : b = a
      · have z' := (if_pos hb).symm.trans z
        cases z'
        subst hb
        exact ⟨ha, by rw [List.length_map]; exact hl, vs, _, rv, ha⟩
      · have z' := (if_neg hb).symm.trans z
        cases z'
    · by_cases hb : b = a
      · exact hb
      · exact absurd (if_neg hb) z
/-- a law, over a head by facts -/
theorem walk_G {l : PySem.W.OpenLaw} {n k : Nat} {q : Program} {loose : List Str} {XP : (Str → Option Value) → Heap → Prop} {YP : World → Heap → Prop} {d : DefRec} {x : Str}
    (hn : l.most = some n) (hn2 : n ≤ sizeLine) (hdf : d.params.defaults = []) (hr : Room k callerA)
    (F : ∀ (w : World) (mg : Str → Option Value) (fa : Addr) (h : Heap), YP w h → h.Ns mainGlobals mg → mg d.name = some (.ref fa) →
      ∃ (K : PySem.W.Frag) (sp : TSp), K.In h ∧ mg x = some (.ref fa) ∧ (∀ ns : List Int, ns.length ≤ n → sp [.fl (ns.map T.int)] (fun _ => none) (fun v _ => v = .bl true)) ∧
        ∀ base : Heap, K.In base → base.Ns mainGlobals mg → Cal l.prog w K mg base k x 1 sp) :
    PySem.W.WalkO q loose XP YP l.row.toRowW d [] (fun f vs => PySem.call f vs) := by
  refine Att.attach_call hn hdf fun w s₀ s₁ mg mb fa o pm cd doc a vs ns G Y ho hd hcd hmg hobj hints hlen hg => ?_
  obtain ⟨K, sp, KX, hx, hsp, hF⟩ := F w mg fa _ Y G.T.g hmg
  exact law_endG KX G.T.g G.T.b G.T.builtins G.T.nolimit hg hobj hints (Nat.le_trans hlen hn2) hr hx hF (hsp ns hlen)
end
end TL
set_option Elab.async false
set_option linter.all false
set_option maxRecDepth 100000
set_option maxHeartbeats 1000000
/-! TLzip: zip of two things, each a list or a tuple. -/
namespace TL
open PySem PySem.Spec PyProof.Rows L2

def SqK (t : Bool) (K : PySem.W.Frag) (H : Hp) (a : Addr) (xs : List V) : Prop := match t with | true => SqT K H a xs | false => SqL K H a xs
def IsQ (t : Bool) (h : Heap) (a : Addr) (its : Array Value) : Prop := match t with | true => h.IsTuple a its | false => h.IsList a its
def IsQI (t : Bool) (h : Heap) (it a : Addr) (i : Nat) : Prop := match t with | true => h.IsTupleIter it a i | false => h.IsListIter it a i
section
variable {X : Cx} {pins : List (Addr × Obj)} {σ : L2.St} {H : Hp} {s : Shared}
theorem sqk_at (I : Inv X pins σ H s) {t : Bool} {a : Addr} {xs : List V} (h : SqK t X.K H a xs) : ∃ its : List Value, Vals xs its ∧ IsQ t s.heap a its.toArray ∧ a < s.heap.objs.size := by
  cases t with
  | true =>
    obtain ⟨its, r, p, _⟩ := I.tuple h
    obtain ⟨o, ho, _⟩ := id p
    exact ⟨its, r, p, Heap.lt_size ho⟩
  | false =>
    obtain ⟨its, r, p, _⟩ := I.list h
    exact ⟨its, r, p.isList, p.lt⟩
theorem sqk_inj (I : Inv X pins σ H s) {t : Bool} {a : Addr} {xs ys : List V} (h : SqK t X.K H a xs) (h' : SqK t X.K H a ys) : xs = ys := by
  cases t with
  | true => exact I.tuple_inj h h'
  | false => exact I.list_inj h h'
end
theorem isq_there {t : Bool} {h : Heap} {a : Addr} {its : Array Value} (x : IsQ t h a its) : ∃ o, h.get? a = some o := by
  cases t with
  | true => obtain ⟨o, e, _⟩ := x; exact ⟨o, e⟩
  | false => obtain ⟨o, e, _⟩ := x; exact ⟨o, e⟩
theorem isqi_obj {t : Bool} {h : Heap} {it a : Addr} {i : Nat} (x : IsQI t h it a i) : ∃ o, h.get? it = some o ∧ ∀ v, o.data ≠ .cell v := by
  cases t with
  | true => obtain ⟨o, e, _, d⟩ := x; exact ⟨o, e, fun v q => by rw [d] at q; cases q⟩
  | false => obtain ⟨o, e, _, d⟩ := x; exact ⟨o, e, fun v q => by rw [d] at q; cases q⟩
theorem isqi_at {t : Bool} {h h' : Heap} {it a : Addr} {i : Nat} (x : IsQI t h it a i) (k : ∀ o, h.get? it = some o → h'.get? it = some o) : IsQI t h' it a i := by
  cases t with
  | true => exact Heap.IsTupleIter.at x k
  | false => exact Heap.IsListIter.at x k
theorem isq_ne {t : Bool} {h : Heap} {it l a : Addr} {i : Nat} {its : Array Value} (x : IsQI t h it l i) (p : IsQ t h a its) : a ≠ it := fun e => by
  cases t with
  | true =>
    obtain ⟨o1, g1, c1, _⟩ := x
    obtain ⟨o2, g2, c2, _⟩ := p
    rw [e, g1] at g2; cases g2; rw [c1] at c2
    injection c2 with c3
    exact absurd c3 (by decide)
  | false =>
    obtain ⟨o1, g1, c1, _⟩ := x
    obtain ⟨o2, g2, c2, _⟩ := p
    rw [e, g1] at g2; cases g2; rw [c1] at c2
    injection c2 with c3
    exact absurd c3 (by decide)
theorem draws_q {prog : Program} {w : World} {A : Around} (hh : A.handled = none) (t : Bool) (it l : Addr) (hne : l ≠ it) (items : Array Value) :
    Draws prog w A it [it, l] items.size (fun i v => items[i]? = some v) (fun i h => IsQI t h it l i ∧ IsQ t h l items) := by
  cases t with
  | true => exact Draws.tuple hh it l hne items
  | false => exact Draws.list hh it l hne items
def itrO (t : Bool) (l : Addr) : Obj := match t with
  | true => { cls := .type "tuple_iterator", data := .fields #[.ref l, .int 0 0] }
  | false => { cls := .type "list_iterator", data := .fields #[.ref l, .int 0 0] }
theorem begins_q (t : Bool) (l : Addr) (items : Array Value) : Begins (.ref l) (itrO t l) fun h => IsQ t h l items := by
  cases t with
  | true => exact begins_tuple l items
  | false => exact begins_list l items
theorem itrO_is {t : Bool} {h : Heap} {it l : Addr} (e : h.get? it = some (itrO t l)) : IsQI t h it l 0 := by
  cases t with
  | true => exact ⟨_, e, rfl, rfl⟩
  | false => exact ⟨_, e, rfl, rfl⟩
def ItM (t1 t2 : Bool) (K : PySem.W.Frag) (a b : Addr) (n1 n2 : Nat) : It :=
  ⟨fun i H => ∃ (xs ys : List V) (x y : V), SqK t1 K H a xs ∧ SqK t2 K H b ys ∧ xs.length = n1 ∧ ys.length = n2 ∧ xs[i]? = some x ∧ ys[i]? = some y,
    fun i H v H' => ∃ T x y, v = .ref T ∧ H T = none ∧ (∃ ob : Obj, ob.dict = none ∧ H' = upd H T (.frz ob (.tup [x, y]))) ∧ (∀ xs, SqK t1 K H a xs → xs[i]? = some x) ∧ ∀ ys, SqK t2 K H b ys → ys[i]? = some y,
    fun i H => ∃ xs ys : List V, SqK t1 K H a xs ∧ SqK t2 K H b ys ∧ xs.length = n1 ∧ ys.length = n2 ∧ (n1 ≤ i ∨ n2 ≤ i)⟩
theorem turn_zipM {P : Program} {w : World} {K : PySem.W.Frag} {elts : List Expr} {kk : Nat} {tpos : Pos} {a b z TI TO i1 i2 : Addr} {n1 n2 : Nat} {t1 t2 : Bool} (D : ZipSep2 z TI TO i1 i2 [i1, a] [i2, b]) :
    Turn P w K (.Tuple elts kk tpos) (ItM t1 t2 K a b n1 n2) [z, TI, TO, i1, i2] z
      (fun i h => IsZip h z TI TO .none ∧ IsTupOf2 h TI (.ref i1) (.ref i2) ∧ (∃ x y, IsTupOf2 h TO x y) ∧ IsQI t1 h i1 a i ∧ IsQI t2 h i2 b i ∧ i ≤ n1 ∧ i ≤ n2) where
  mem := by simp
  obj := fun i h st c hc => by
    obtain ⟨hz, hTI, ⟨x, y, hTO⟩, h1, h2, _, _⟩ := st
    have e' : c = z ∨ c = TI ∨ c = TO ∨ c = i1 ∨ c = i2 := by simpa using hc
    rcases e' with q | q | q | q | q
    · rw [q]; exact ⟨_, hz, fun v q => nomatch q⟩
    · rw [q]; exact ⟨_, hTI, fun v q => nomatch q⟩
    · rw [q]; exact ⟨_, hTO, fun v q => nomatch q⟩
    · rw [q]; exact isqi_obj h1
    · rw [q]; exact isqi_obj h2
  keep := fun i h h' st k => by
    obtain ⟨hz, hTI, ⟨x, y, hTO⟩, h1, h2, l1, l2⟩ := st
    exact ⟨k z (by simp) _ hz, k TI (by simp) _ hTI, ⟨x, y, k TO (by simp) _ hTO⟩, isqi_at h1 fun o q => k i1 (by simp) o q, isqi_at h2 fun o q => k i2 (by simp) o q, l1, l2⟩
  item := by
    intro X hP hw hK hc i pins s σ H E I hf st hg
    subst hP hw hK
    obtain ⟨hz, hTI, ⟨x0, y0, hTO⟩, h1, h2, l1, l2⟩ := st
    obtain ⟨xs, ys, x, y, hqx, hqy, e1, e2, hx, hy⟩ := hg
    obtain ⟨its, rv, p, _⟩ := sqk_at I hqx
    obtain ⟨its2, rv2, p2, _⟩ := sqk_at I hqy
    obtain ⟨u, hu, ru⟩ := rv.get hx
    obtain ⟨u2, hu2, ru2⟩ := rv2.get hy
    have m1 : i < n1 := by rw [← e1]; exact (List.getElem?_eq_some_iff.mp hx).1
    have m2 : i < n2 := by rw [← e2]; exact (List.getElem?_eq_some_iff.mp hy).1
    have hzl : z < s.heap.objs.size := Heap.lt_size hz
    have ha : a ≠ i1 := isq_ne h1 p
    have hb : b ≠ i2 := isq_ne h2 p2
    refine wpAny_pyNext_zipD2_item D (draws_q (A := X.A.in1) (I.ok.hd hc) t1 i1 a ha its.toArray) (draws_q (A := X.A.in1) (I.ok.hd hc) t2 i2 b hb its2.toArray) hz hTI hTO ⟨h1, p⟩ ⟨h2, p2⟩
      (by rw [List.size_toArray, ← rv.length, e1]; exact m1) (by rw [List.size_toArray, ← rv2.length, e2]; exact m2) fun v1 v2 h' tk y1 y2 z' TO' st1 st2 hT hsz hk => ?_
    obtain rfl : u = v1 := by
      have : its[i]? = some v1 := by simpa using y1
      rw [hu] at this; cases this; rfl
    obtain rfl : u2 = v2 := by
      have : its2[i]? = some v2 := by simpa using y2
      rw [hu2] at this; cases this; rfl
    refine ⟨_, rfl, wpAny_letOwnedTupleGo_zip (s := { s with heap := h', toks := tk }) z' fun h'' z'' sb => ?_⟩
    have hT2 : h''.get? s.heap.objs.size = some { cls := .type "tuple", data := .seq #[u, u2] } := (sb.2 _ (Nat.ne_of_gt hzl)).trans hT
    have new : ObjOk X.prog X.w (upd H s.heap.objs.size (.frz (tupOb [u, u2]) (.tup [x, y]))) h'' s.heap.objs.size (.frz (tupOb [u, u2]) (.tup [x, y])) :=
      frz_ok (by show 2 ≤ sizeLine; decide) (.cons ru (.cons ru2 .nil)) hT2
    have I1 : Inv X pins σ (upd H s.heap.objs.size (.frz (tupOb [u, u2]) (.tup [x, y]))) { s with heap := h'', toks := tk } :=
      I.turnedNew (t' := tk) (ch := [z, TI, TO, i1, i2]) (fun c o hb q => (sb.2 c (fun q' => hb (by simp [q']))).trans (hk c o (fun q' => hb (by simp [q'])) (fun q' => hb (by simp [q'])) (fun q' => hb (by simp [q'])) (fun q' => hb (by simp [q'])) q)) hf (Nat.le_refl _) new
    refine ⟨.ref s.heap.objs.size, _, I1, rfl, ⟨_, x, y, rfl, I.hok.fresh (Nat.le_refl _), ⟨_, rfl, rfl⟩, fun l hl => by rw [sqk_inj I hl hqx]; exact hx, fun l hl => by rw [sqk_inj I hl hqy]; exact hy⟩, ⟨z'', ?_, ⟨u, u2, ?_⟩, ?_, ?_, m1, m2⟩, fun c hcm => ?_⟩
    · exact (sb.2 _ D.TIz).trans (hk _ _ D.TIz D.TITO D.TIi1 D.TIi2 hTI)
    · exact (sb.2 _ D.TOz).trans TO'
    · exact isqi_at st1.1 fun o q => (sb.2 _ (Ne.symm D.zi1)).trans q
    · exact isqi_at st2.1 fun o q => (sb.2 _ (Ne.symm D.zi2)).trans q
    · have hlt : c < s.heap.objs.size := by
        have e' : c = z ∨ c = TI ∨ c = TO ∨ c = i1 ∨ c = i2 := by simpa using hcm
        rcases e' with q | q | q | q | q
        · rw [q]; exact hzl
        · rw [q]; exact Heap.lt_size hTI
        · rw [q]; exact Heap.lt_size hTO
        · rw [q]; obtain ⟨_, e1, _⟩ := isqi_obj h1; exact Heap.lt_size e1
        · rw [q]; obtain ⟨_, e2, _⟩ := isqi_obj h2; exact Heap.lt_size e2
      rw [upd_ne (Nat.ne_of_lt hlt)]
      exact (hf c hcm).1
  done := by
    intro X hP hw hK hc i pins s σ H E I hf st hg
    subst hP hw hK
    obtain ⟨hz, hTI, ⟨x0, y0, hTO⟩, h1, h2, l1, l2⟩ := st
    obtain ⟨xs, ys, hqx, hqy, e1, e2, hend⟩ := hg
    obtain ⟨its, rv, p, _⟩ := sqk_at I hqx
    obtain ⟨its2, rv2, p2, _⟩ := sqk_at I hqy
    have ha : a ≠ i1 := isq_ne h1 p
    have hb : b ≠ i2 := isq_ne h2 p2
    have z1 : its.toArray.size = n1 := by rw [List.size_toArray, ← rv.length, e1]
    have z2 : its2.toArray.size = n2 := by rw [List.size_toArray, ← rv2.length, e2]
    exact wpAny_pyNext_zipD2_end D (draws_q (A := X.A.in1) (I.ok.hd hc) t1 i1 a ha its.toArray) (draws_q (A := X.A.in1) (I.ok.hd hc) t2 i2 b hb its2.toArray) hz hTI hTO ⟨h1, p⟩ ⟨h2, p2⟩ (by omega) (by omega) (by omega) fun h' tk hk => ⟨rfl, I.turnedL (t' := tk) (ch := [z, TI, TO, i1, i2]) (fun c o hb q =>
      hk c o (fun q' => hb (by simp [q'])) (fun q' => hb (by simp [q'])) (fun q' => hb (by simp [q'])) (fun q' => hb (by simp [q'])) q) hf⟩
  self := fun A i s Q E st h => wpAny_pyIter_zip st.1 h

/-- what zip may walk at the T level -/
def sqT? (S : Sto) : T → Option (Bool × List T)
  | .tup xs => some (true, xs)
  | .fl xs => some (false, xs)
  | .adr a => (lstAt S a).map fun xs => (false, xs)
  | _ => none
def liveT (x : T) (xs : List T) : Sto → Prop := fun S => match x with | .adr a => lstAt S a = some xs | _ => True
theorem sqT_of {K : Zk} {S : Sto} {H : Hp} (rs : RelS K S H) {x : T} {v : V} (r : RT K H x v) {k : Bool} {xs : List T} (e : sqT? S x = some (k, xs)) : ∃ a vs, v = .ref a ∧ SqK k K.K H a vs ∧ RTs K H xs vs := by
  cases x with
  | tup ys => cases e; rw [rt_tup] at r; obtain ⟨a, vs, h1, h2, h3⟩ := r; exact ⟨a, vs, h1, h2.sqT, h3⟩
  | fl ys => cases e; rw [rt_fl] at r; obtain ⟨a, vs, h1, h2, h3⟩ := r; exact ⟨a, vs, h1, h2.sqL, h3⟩
  | adr a =>
    rw [rt_adr] at r
    have e : (lstAt S a).map (fun xs => (false, xs)) = some (k, xs) := e
    cases e1 : lstAt S a with
    | none => rw [e1] at e; cases e
    | some ys =>
      rw [e1] at e; cases e
      obtain ⟨vs, h1, h2⟩ := rs.list e1
      exact ⟨a, vs, r, h1, h2⟩
  | _ => cases e
theorem sqT_live {S S' : Sto} {x : T} {k : Bool} {xs : List T} (e : sqT? S x = some (k, xs)) (l : liveT x xs S') : sqT? S' x = some (k, xs) := by
  cases x with
  | adr a =>
    have e : (lstAt S a).map (fun xs => (false, xs)) = some (k, xs) := e
    have l : lstAt S' a = some xs := l
    show (lstAt S' a).map (fun xs => (false, xs)) = some (k, xs)
    rw [l]
    cases e1 : lstAt S a with
    | none => rw [e1] at e; cases e
    | some ys => rw [e1] at e; cases e; rfl
  | _ => exact e
def zipT : List T → List T → List T
  | x :: xs, y :: ys => .tup [x, y] :: zipT xs ys
  | _, _ => []
theorem zipT_some : ∀ {xs ys : List T} {i : Nat} {z : T}, (zipT xs ys)[i]? = some z → ∃ x y, xs[i]? = some x ∧ ys[i]? = some y ∧ z = .tup [x, y]
  | [], _, _, _, e => by simp [zipT] at e
  | _ :: _, [], _, _, e => by simp [zipT] at e
  | x :: xs, y :: ys, 0, z, e => by simp [zipT] at e; exact ⟨x, y, rfl, rfl, e.symm⟩
  | x :: xs, y :: ys, i + 1, z, e => by simpa using zipT_some (xs := xs) (ys := ys) (i := i) (by simpa [zipT] using e)
theorem zipT_none : ∀ {xs ys : List T} {i : Nat}, (zipT xs ys)[i]? = none → xs.length ≤ i ∨ ys.length ≤ i
  | [], _, _, _ => .inl (Nat.zero_le _)
  | _ :: _, [], _, _ => .inr (Nat.zero_le _)
  | x :: xs, y :: ys, 0, e => by simp [zipT] at e
  | x :: xs, y :: ys, i + 1, e => by
    have := zipT_none (xs := xs) (ys := ys) (i := i) (by simpa [zipT] using e)
    simpa using this
def tiZip (ta : TTA) : TTI := fun ρ S Q => ta ρ S fun vs S1 => match vs with
  | [x, y] => (match sqT? S1 x, sqT? S1 y with
    | some (_, xs), some (_, ys) => Q ⟨zipT xs ys, fun S => liveT x xs S ∧ liveT y ys S⟩ S1
    | _, _ => False)
  | _ => False
theorem RT.exti {K : Zk} {H H' : Hp} (x : Ext H H') {t : T} {v : V} (h : RT K H t v) : RT K H' t v := RT.ext x t h
theorem i_zip {X : Cx} {e e2 : Expr} {ta : TTA} {p pos tpos : Pos} {elts : List Expr} {kk : Nat} (hg : Gl X "zip") (hm : X.mg "zip" = none) (ha : QA X [e, e2] ta)
    (hs : starEach [e, e2] X.env = (false, eval e X.env) :: starEach [e2] X.env := by rfl) (hpl : (backTo pos (starEach [e2] X.env)).any (·.1) = false := by rfl) :
    QI X (.Tuple elts kk tpos) (.Call (.Name "zip" p) [e, e2] [] pos) (tiZip ta) := by
  refine ⟨fun pins s σ H R I h => ?_⟩
  obtain ⟨ρ, S, Q', rs, re, q, m⟩ := h
  refine Call_ (ld_blt I hg hm PyProof.Rows.boot_zip (PyProof.Rows.callWith_type1 (thn (ha.run pos pins s σ H _ I (LA.mk (R := WA (zx X) H _) rs re q fun r S' v H' e1 r1 r2 r3 => ⟨r, S', e1, r1, r2, r3⟩)) fun us s1 ⟨vs, H1, I1, r1, ⟨ts, S1, e1, rs1, rr, q1⟩⟩ => ?_) hs hpl))
  dsimp only at q1
  split at q1
  · rename_i x y
    split at q1
    · rename_i k1 xs k2 ys ex ey
      obtain ⟨v1, v2, rfl, g1, g2⟩ := rr.two'
      obtain ⟨a, vs1, rfl, hqx, rx⟩ := sqT_of rs1 g1 ex
      obtain ⟨b, vs2, rfl, hqy, ry⟩ := sqT_of rs1 g2 ey
      cases r1 with
      | cons r rr' =>
        cases rr' with
        | cons r' rr' =>
          cases rr'
          cases r
          cases r'
          obtain ⟨its, rv, p1, la⟩ := sqk_at I1 hqx
          obtain ⟨its2, rv2, p2, lb⟩ := sqk_at I1 hqy
          have fresh5 : ∀ c, c ∈ [s1.heap.objs.size + 4, s1.heap.objs.size + 2, s1.heap.objs.size + 3, s1.heap.objs.size, s1.heap.objs.size + 1] → FpOk X pins H1 c := fun c hcm => by
            have e' : c = s1.heap.objs.size + 4 ∨ c = s1.heap.objs.size + 2 ∨ c = s1.heap.objs.size + 3 ∨ c = s1.heap.objs.size ∨ c = s1.heap.objs.size + 1 := by simpa using hcm
            have hle : s1.heap.objs.size ≤ c := by
              rcases e' with z | z | z | z | z
              · rw [z]; exact Nat.le_add_right _ _
              · rw [z]; exact Nat.le_add_right _ _
              · rw [z]; exact Nat.le_add_right _ _
              · rw [z]; exact Nat.le_refl _
              · rw [z]; exact Nat.le_add_right _ _
            exact I1.fpOk hle (I1.hok.fresh hle)
          refine zip_begins2 (begins_q k1 a its.toArray) (begins_q k2 b its2.toArray) p1 p2 fun h' hz hTI hTO h1 h2 hsz hk => wpAny_pyIter_zip hz ?_
          have I2 : Inv X pins σ H1 { s1 with heap := h' } := I1.kept (t' := s1.toks) hk
          refine ⟨s1.heap.objs.size + 4, [s1.heap.objs.size + 4, s1.heap.objs.size + 2, s1.heap.objs.size + 3, s1.heap.objs.size, s1.heap.objs.size + 1], _, ItM k1 k2 X.K a b xs.length ys.length, H1, rfl, I2,
            turn_zipM (zip_sep2 (N := s1.heap.objs.size) (fp1 := [a]) (fp2 := [b]) (fun c hc => by rw [List.mem_singleton.mp hc]; exact la) (fun c hc => by rw [List.mem_singleton.mp hc]; exact lb)), ⟨hz, hTI, ⟨_, _, hTO⟩, itrO_is h1, itrO_is h2, Nat.zero_le _, Nat.zero_le _⟩, fresh5,
            m _ _ _ _ e1 rs1 ?_ q1⟩
          refine ⟨fun i S' H' z rs' ext' live ei => ?_, fun i S' H' rs' ext' live ei => ?_⟩
          · obtain ⟨x', y', hx, hy, rfl⟩ := zipT_some ei
            obtain ⟨a', ws1, ea, hq1, r1'⟩ := sqT_of rs' (RT.exti ext' g1) (sqT_live ex live.1)
            obtain ⟨b', ws2, eb, hq2, r2'⟩ := sqT_of rs' (RT.exti ext' g2) (sqT_live ey live.2)
            cases ea; cases eb
            obtain ⟨w1, hw1, rw1⟩ := r1'.get hx
            obtain ⟨w2, hw2, rw2⟩ := r2'.get hy
            refine ⟨⟨ws1, ws2, w1, w2, hq1, hq2, r1'.length.symm, r2'.length.symm, hw1, hw2⟩, fun v H'' yl => ?_⟩
            obtain ⟨T', x2, y2, rfl, hT, ⟨ob, hob, rfl⟩, f1, f2⟩ := yl
            have z1 := f1 _ hq1
            rw [hw1] at z1; cases z1
            have z2 := f2 _ hq2
            rw [hw2] at z2; cases z2
            refine ⟨.new hT, rs'.new hT, ?_⟩
            rw [rt_tup]
            exact ⟨T', _, rfl, .inl ⟨ob, upd_same, hob⟩, .cons (RT.exti (.new hT) rw1) (.cons (RT.exti (.new hT) rw2) .nil)⟩
          · obtain ⟨a', ws1, ea, hq1, r1'⟩ := sqT_of rs' (RT.exti ext' g1) (sqT_live ex live.1)
            obtain ⟨b', ws2, eb, hq2, r2'⟩ := sqT_of rs' (RT.exti ext' g2) (sqT_live ey live.2)
            cases ea; cases eb
            exact ⟨ws1, ws2, hq1, hq2, r1'.length.symm, r2'.length.symm, zipT_none ei⟩
    · exact q1.elim
  · exact q1.elim
end TL
set_option Elab.async false
set_option linter.all false
set_option maxRecDepth 100000
set_option maxHeartbeats 1000000
/-! TL7: the language's own functions over T. -/
namespace TL
open PySem PySem.Spec PyProof.Rows L2

abbrev OA := List T → Sto → (T → Sto → Prop) → Prop
def tbi (o : OA) (t : TTA) : TTE := fun ρ S Q => t ρ S fun vs S1 => o vs S1 Q
/-- a rule by values -/
def OpA (K : Zk) (r : List V → Hp → VK → Prop) (o : OA) : Prop :=
  ∀ ts vs S H H0 Q R, Ext H0 H → RelS K S H → RTs K H ts vs → o ts S Q → (∀ v H', WE K H0 Q v H' → R v H') → r vs H R
section
variable {X : Cx} {x : Str} {p pos : Pos} {e : Expr} {es : List Expr} {t : TTA} {id Ty : String} {r : List V → Hp → VK → Prop} {o : OA}
theorem q_bi (hc : CallR X (.builtin id) r) (h : OpA (zx X) r o) (hg : Gl X x) (hm : X.mg x = none) (hv : bootBuiltins x = some (.builtin id)) (ha : QA X (e :: es) t) (hn : x ≠ "__name__" := by decide) (hdb : (x == ("__debug__" : Str)) = false := by decide)
    (he : starEach (e :: es) X.env = (false, eval e X.env) :: starEach es X.env := by rfl) (hpl : (backTo pos (starEach es X.env)).any (·.1) = false := by rfl) : QE X (.Call (.Name x p) (e :: es) [] pos) (tbi o t) :=
  qe_of (pe_callB hc hg hm hv ha hn hdb he hpl) fun σ H ρ S Q rs re q => LA.mk rs re q fun ts S1 vs H1 e1 rs1 rr q1 => h ts vs S1 H1 H Q _ e1 rs1 rr q1 fun _ _ w => w
theorem q_ty (hc : CallR X (.type Ty) r) (h : OpA (zx X) r o) (hg : Gl X x) (hm : X.mg x = none) (hv : bootBuiltins x = some (.type Ty)) (ha : QA X (e :: es) t) (hn : x ≠ "__name__" := by decide) (hdb : (x == ("__debug__" : Str)) = false := by decide)
    (he : starEach (e :: es) X.env = (false, eval e X.env) :: starEach es X.env := by rfl) (hpl : (backTo pos (starEach es X.env)).any (·.1) = false := by rfl) : QE X (.Call (.Name x p) (e :: es) [] pos) (tbi o t) :=
  qe_of (pe_callTy hc hg hm hv ha hn hdb he hpl) fun σ H ρ S Q rs re q => LA.mk rs re q fun ts S1 vs H1 e1 rs1 rr q1 => h ts vs S1 H1 H Q _ e1 rs1 rr q1 fun _ _ w => w
end
/-! len -/
def oLen : OA := fun ts S Q => match ts with
  | [.tup xs] => Q (.int xs.length) S
  | [.fl xs] => Q (.int xs.length) S
  | [.str z] => z.length ≤ sizeLine ∧ Q (.int z.length) S
  | [.adr a] => (match S a with
    | some (.lst xs) => Q (.int xs.length) S
    | some (.dk kvs) => Q (.int kvs.length) S
    | _ => False)
  | _ => False
/-! int -/
def oInt : OA := fun ts S Q => match ts with
  | [.int i] => Q (.int i) S
  | [.bl b] => Q (.int (if b then 1 else 0)) S
  | _ => False
/-! sum, max, min -/
def intsT : List T → Option (List Int)
  | [] => some []
  | .int i :: r => (intsT r).map (i :: ·)
  | _ :: _ => none
theorem intsT_of : ∀ {ts : List T} {ns : List Int}, intsT ts = some ns → ts = ns.map T.int
  | [], ns, e => by cases e; rfl
  | .int i :: r, ns, e => by
    have e : (intsT r).map (i :: ·) = some ns := e
    cases e1 : intsT r with
    | none => rw [e1] at e; cases e
    | some l => rw [e1] at e; cases e; rw [intsT_of e1]; rfl
theorem intsT_map (ns : List Int) : intsT (ns.map T.int) = some ns := by
  induction ns with
  | nil => rfl
  | cons n ns ih => show (intsT (ns.map T.int)).map (n :: ·) = _; rw [ih]; rfl
def oSum : OA := fun ts S Q => match ts with
  | [.adr a] => (match (lstAt S a).bind intsT with | some ns => Q (.int ns.sum) S | none => False)
  | [.fl xs] => (match intsT xs with | some ns => Q (.int ns.sum) S | none => False)
  | _ => False
def oMax2 : OA := fun ts S Q => match ts with | [.int i, .int j] => Q (.int (if j > i then j else i)) S | _ => False
def oMin2 : OA := fun ts S Q => match ts with | [.int i, .int j] => Q (.int (if j < i then j else i)) S | _ => False
def oMaxL : OA := fun ts S Q => match ts with
  | [.adr a] => (match (lstAt S a).bind intsT with | some ns => 0 < ns.length ∧ ∀ m, m ∈ ns → (∀ y, y ∈ ns → y ≤ m) → Q (.int m) S | none => False)
  | _ => False
/-! tuple(list), list(tuple) -/
def oTup : OA := fun ts S Q => match ts with
  | [.tup xs] => Q (.tup xs) S
  | [.fl xs] => Q (.tup xs) S
  | [.adr a] => (match lstAt S a with | some xs => Q (.tup xs) S | none => False)
  | _ => False
def oLst : OA := fun ts S Q => match ts with
  | [.tup xs] => NewO S (.lst xs) Q
  | [.fl xs] => NewO S (.lst xs) Q
  | [.adr a] => (match lstAt S a with | some xs => NewO S (.lst xs) Q | none => False)
  | _ => False
section
variable {X : Cx} {x : Str} {p pos : Pos} {e : Expr} {es : List Expr} {t : TTA}
theorem RTs.ints' {K : Zk} {H : Hp} {xs : List T} {ns : List Int} {vs : List V} (e : intsT xs = some ns) (h : RTs K H xs vs) : vs = ns.map V.int := by
  rw [intsT_of e] at h
  exact h.ints
theorem oa_len : OpA (zx X) (fun xs H Q => ((∃ p ys, xs = [.ref p] ∧ (SqL X.K H p ys ∨ SqT X.K H p ys) ∧ Q (.int ys.length) H) ∨ ∃ z, xs = [.str z] ∧ z.length ≤ sizeLine ∧ Q (.int z.length) H) ∨ ∃ a kvs, xs = [V.ref a] ∧ H a = some (.dK kvs) ∧ Q (.int kvs.length) H) oLen := by
  intro ts vs S H H0 Q R e rs rr q k
  unfold oLen at q
  split at q
  · obtain ⟨v, rfl, h⟩ := rr.one'
    rw [rt_tup] at h
    obtain ⟨a, ws, rfl, h1, h2⟩ := h
    exact .inl (.inl ⟨a, ws, rfl, .inr h1.sqT, k _ _ (.here e rs (by rw [rt_int, ← h2.length]) q)⟩)
  · obtain ⟨v, rfl, h⟩ := rr.one'
    rw [rt_fl] at h
    obtain ⟨a, ws, rfl, h1, h2⟩ := h
    exact .inl (.inl ⟨a, ws, rfl, .inl h1.sqL, k _ _ (.here e rs (by rw [rt_int, ← h2.length]) q)⟩)
  · obtain ⟨v, rfl, h⟩ := rr.one'
    rw [rt_str] at h
    subst h
    exact .inl (.inr ⟨_, rfl, q.1, k _ _ (.here e rs (by rw [rt_int]) q.2)⟩)
  · obtain ⟨v, rfl, h⟩ := rr.one'
    rw [rt_adr] at h
    subst h
    split at q
    · rename_i xs ex
      obtain ⟨ws, h1, h2⟩ := rs _ _ ex
      exact .inl (.inl ⟨_, ws, rfl, .inl (.inl (.inl h1)), k _ _ (.here e rs (by rw [rt_int, ← h2.length]) q)⟩)
    · rename_i kvs ex
      obtain ⟨ws, h1, h2⟩ := rs _ _ ex
      exact .inr ⟨_, ws, rfl, h1, k _ _ (.here e rs (by rw [rt_int, ← h2.length]) q)⟩
    · exact q.elim
  · exact q.elim
theorem q_len (hg : Gl X "len") (hm : X.mg "len" = none) (ha : QA X (e :: es) t) (he : starEach (e :: es) X.env = (false, eval e X.env) :: starEach es X.env := by rfl) (hpl : (backTo pos (starEach es X.env)).any (·.1) = false := by rfl) :
    QE X (.Call (.Name "len" p) (e :: es) [] pos) (tbi oLen t) := q_bi ((call_len_seq.or call_len_str).or call_lenD) oa_len hg hm boot_len ha (by decide) (by decide) he hpl
theorem oa_int : OpA (zx X) (fun xs H Q => (∃ i, xs = [.int i] ∧ Q (.int i) H) ∨ ∃ k, xs = [.bl k] ∧ Q (.int (if k then 1 else 0)) H) oInt := by
  intro ts vs S H H0 Q R e rs rr q k
  unfold oInt at q
  split at q
  · obtain ⟨v, rfl, h⟩ := rr.one'
    rw [rt_int] at h
    subst h
    exact .inl ⟨_, rfl, k _ _ (.here e rs (by rw [rt_int]) q)⟩
  · obtain ⟨v, rfl, h⟩ := rr.one'
    rw [rt_bl] at h
    subst h
    exact .inr ⟨_, rfl, k _ _ (.here e rs (by rw [rt_int]) q)⟩
  · exact q.elim
theorem q_int (hg : Gl X "int") (hm : X.mg "int" = none) (ha : QA X (e :: es) t) (he : starEach (e :: es) X.env = (false, eval e X.env) :: starEach es X.env := by rfl) (hpl : (backTo pos (starEach es X.env)).any (·.1) = false := by rfl) :
    QE X (.Call (.Name "int" p) (e :: es) [] pos) (tbi oInt t) := q_ty call_int1 oa_int hg hm (by decide +kernel) ha (by decide) (by decide) he hpl
theorem oa_sum : OpA (zx X) (rSum X.K) oSum := by
  intro ts vs S H H0 Q R e rs rr q k
  unfold oSum at q
  split at q
  · obtain ⟨v, rfl, h⟩ := rr.one'
    rw [rt_adr] at h
    subst h
    split at q
    · rename_i ns en
      obtain ⟨xs, e1, e2⟩ := Option.bind_eq_some_iff.mp en
      obtain ⟨ws, h1, h2⟩ := rs.list e1
      rw [RTs.ints' e2 h2] at h1
      exact ⟨_, ns, rfl, h1, k _ _ (.here e rs (by rw [rt_int]) q)⟩
    · exact q.elim
  · obtain ⟨v, rfl, h⟩ := rr.one'
    rw [rt_fl] at h
    obtain ⟨a, ws, rfl, h1, h2⟩ := h
    split at q
    · rename_i ns en
      rw [RTs.ints' en h2] at h1
      exact ⟨_, ns, rfl, h1.sqL, k _ _ (.here e rs (by rw [rt_int]) q)⟩
    · exact q.elim
  · exact q.elim
theorem q_sum (hc : X.calm = true) (hg : Gl X "sum") (hm : X.mg "sum" = none) (ha : QA X (e :: es) t) (he : starEach (e :: es) X.env = (false, eval e X.env) :: starEach es X.env := by rfl) (hpl : (backTo pos (starEach es X.env)).any (·.1) = false := by rfl) :
    QE X (.Call (.Name "sum" p) (e :: es) [] pos) (tbi oSum t) := q_bi (cr_sum hc) oa_sum hg hm (by decide +kernel) ha (by decide) (by decide) he hpl
theorem oa_max2 : OpA (zx X) (fun xs H Q => ∃ i j, xs = [.int i, .int j] ∧ Q (.int (if j > i then j else i)) H) oMax2 := by
  intro ts vs S H H0 Q R e rs rr q k
  unfold oMax2 at q
  split at q
  · obtain ⟨v, u, rfl, h1, h2⟩ := rr.two'
    rw [rt_int] at h1 h2
    subst h1; subst h2
    exact ⟨_, _, rfl, k _ _ (.here e rs (by rw [rt_int]) q)⟩
  · exact q.elim
theorem oa_min2 : OpA (zx X) (fun xs H Q => ∃ i j, xs = [.int i, .int j] ∧ Q (.int (if j < i then j else i)) H) oMin2 := by
  intro ts vs S H H0 Q R e rs rr q k
  unfold oMin2 at q
  split at q
  · obtain ⟨v, u, rfl, h1, h2⟩ := rr.two'
    rw [rt_int] at h1 h2
    subst h1; subst h2
    exact ⟨_, _, rfl, k _ _ (.here e rs (by rw [rt_int]) q)⟩
  · exact q.elim
theorem oa_maxL : OpA (zx X) (rMax X.K) oMaxL := by
  intro ts vs S H H0 Q R e rs rr q k
  unfold oMaxL at q
  split at q
  · obtain ⟨v, rfl, h⟩ := rr.one'
    rw [rt_adr] at h
    subst h
    split at q
    · rename_i ns en
      obtain ⟨xs, e1, e2⟩ := Option.bind_eq_some_iff.mp en
      obtain ⟨ws, h1, h2⟩ := rs.list e1
      rw [RTs.ints' e2 h2] at h1
      exact ⟨_, ns, rfl, h1, q.1, fun m a b => k _ _ (.here e rs (by rw [rt_int]) (q.2 m a b))⟩
    · exact q.elim
  · exact q.elim
theorem q_max2 (hc : X.calm = true) (hg : Gl X "max") (hm : X.mg "max" = none) (ha : QA X (e :: es) t) (he : starEach (e :: es) X.env = (false, eval e X.env) :: starEach es X.env := by rfl) (hpl : (backTo pos (starEach es X.env)).any (·.1) = false := by rfl) :
    QE X (.Call (.Name "max" p) (e :: es) [] pos) (tbi oMax2 t) := q_bi (call_max2 hc) oa_max2 hg hm (by decide +kernel) ha (by decide) (by decide) he hpl
theorem q_maxL (hc : X.calm = true) (hg : Gl X "max") (hm : X.mg "max" = none) (ha : QA X (e :: es) t) (he : starEach (e :: es) X.env = (false, eval e X.env) :: starEach es X.env := by rfl) (hpl : (backTo pos (starEach es X.env)).any (·.1) = false := by rfl) :
    QE X (.Call (.Name "max" p) (e :: es) [] pos) (tbi oMaxL t) := q_bi (cr_max hc) oa_maxL hg hm (by decide +kernel) ha (by decide) (by decide) he hpl
theorem q_min2 (hc : X.calm = true) (hg : Gl X "min") (hm : X.mg "min" = none) (ha : QA X (e :: es) t) (he : starEach (e :: es) X.env = (false, eval e X.env) :: starEach es X.env := by rfl) (hpl : (backTo pos (starEach es X.env)).any (·.1) = false := by rfl) :
    QE X (.Call (.Name "min" p) (e :: es) [] pos) (tbi oMin2 t) := q_bi (call_min2 hc) oa_min2 hg hm (by decide +kernel) ha (by decide) (by decide) he hpl
theorem oa_tup : OpA (zx X) (fun xs H Q => ∃ p ys, xs = [.ref p] ∧ ((SqL X.K H p ys ∧ NewT H ys Q) ∨ (SqT X.K H p ys ∧ Q (.ref p) H))) oTup := by
  intro ts vs S H H0 Q R e rs rr q k
  unfold oTup at q
  split at q
  · obtain ⟨v, rfl, h⟩ := rr.one'
    have h' := h
    rw [rt_tup] at h
    obtain ⟨a, ws, rfl, h1, h2⟩ := h
    exact ⟨a, ws, rfl, .inr ⟨h1.sqT, k _ _ (.here e rs h' q)⟩⟩
  · obtain ⟨v, rfl, h⟩ := rr.one'
    rw [rt_fl] at h
    obtain ⟨a, ws, rfl, h1, h2⟩ := h
    exact ⟨a, ws, rfl, .inl ⟨h1.sqL, fun l ob hl hd => k _ _ (.tup e rs hl hd h2 q)⟩⟩
  · obtain ⟨v, rfl, h⟩ := rr.one'
    rw [rt_adr] at h
    subst h
    split at q
    · rename_i xs ex
      obtain ⟨ws, h1, h2⟩ := rs.list ex
      exact ⟨_, ws, rfl, .inl ⟨h1, fun l ob hl hd => k _ _ (.tup e rs hl hd h2 q)⟩⟩
    · exact q.elim
  · exact q.elim
theorem q_tuple (hg : Gl X "tuple") (hm : X.mg "tuple" = none) (ha : QA X (e :: es) t) (he : starEach (e :: es) X.env = (false, eval e X.env) :: starEach es X.env := by rfl) (hpl : (backTo pos (starEach es X.env)).any (·.1) = false := by rfl) :
    QE X (.Call (.Name "tuple" p) (e :: es) [] pos) (tbi oTup t) := q_ty call_tupleF oa_tup hg hm (by decide +kernel) ha (by decide) (by decide) he hpl
theorem oa_lst : OpA (zx X) (fun xs H Q => ∃ p ys, xs = [.ref p] ∧ (SqL X.K H p ys ∨ SqT X.K H p ys) ∧ ∀ l, H l = none → Q (.ref l) (upd H l (.lst ys))) oLst := by
  intro ts vs S H H0 Q R e rs rr q k
  unfold oLst at q
  split at q
  · obtain ⟨v, rfl, h⟩ := rr.one'
    rw [rt_tup] at h
    obtain ⟨a, ws, rfl, h1, h2⟩ := h
    exact ⟨a, ws, rfl, .inr h1.sqT, fun l hl => k _ _ (.lst e rs hl h2 (q.at (rs.none_of hl)))⟩
  · obtain ⟨v, rfl, h⟩ := rr.one'
    rw [rt_fl] at h
    obtain ⟨a, ws, rfl, h1, h2⟩ := h
    exact ⟨a, ws, rfl, .inl h1.sqL, fun l hl => k _ _ (.lst e rs hl h2 (q.at (rs.none_of hl)))⟩
  · obtain ⟨v, rfl, h⟩ := rr.one'
    rw [rt_adr] at h
    subst h
    split at q
    · rename_i xs ex
      obtain ⟨ws, h1, h2⟩ := rs.list ex
      exact ⟨_, ws, rfl, .inl h1, fun l hl => k _ _ (.lst e rs hl h2 (q.at (rs.none_of hl)))⟩
    · exact q.elim
  · exact q.elim
theorem q_list (hg : Gl X "list") (hm : X.mg "list" = none) (ha : QA X (e :: es) t) (he : starEach (e :: es) X.env = (false, eval e X.env) :: starEach es X.env := by rfl) (hpl : (backTo pos (starEach es X.env)).any (·.1) = false := by rfl) :
    QE X (.Call (.Name "list" p) (e :: es) [] pos) (tbi oLst t) := q_ty call_list_of oa_lst hg hm (by decide +kernel) ha (by decide) (by decide) he hpl
end
/-! list(reversed(xs)), list(range(n)) -/
def tlRev (te : TTE) : TTE := fun ρ S Q => te ρ S fun x S1 => match x with
  | .adr a => (match lstAt S1 a with | some xs => NewO S1 (.lst xs.reverse) Q | none => False)
  | .fl xs => NewO S1 (.lst xs.reverse) Q
  | _ => False
def tlRng1 (te : TTE) : TTE := fun ρ S Q => te ρ S fun x S1 => match x with
  | .int n => 0 ≤ n ∧ n ≤ 4000 ∧ NewO S1 (.lst (rngT 0 n.toNat)) Q
  | _ => False
section
variable {X : Cx} {e : Expr} {te : TTE} {p p2 pos pos2 : Pos}
theorem q_lstRev (hc : X.calm = true) (hg : Gl X "list") (hm : X.mg "list" = none) (hg2 : Gl X "reversed") (hm2 : X.mg "reversed" = none) (he : QE X e te)
    (hs : starEach [e] X.env = (false, eval e X.env) :: starEach [] X.env := by rfl)
    (hs2 : starEach [.Call (.Name "reversed" p2) [e] [] pos2] X.env = (false, eval (.Call (.Name "reversed" p2) [e] [] pos2) X.env) :: starEach [] X.env := by rfl) :
    QE X (.Call (.Name "list" p) [.Call (.Name "reversed" p2) [e] [] pos2] [] pos) (tlRev te) := by
  refine qe_of (pe_lstRev hc hg hm hg2 hm2 he hs hs2) fun σ H ρ S Q rs re q => LE.mk rs re q fun x S1 v H1 e1 rs1 rx q1 => ?_
  split at q1
  · rw [rt_adr] at rx
    split at q1
    · rename_i xs ex
      obtain ⟨ws, h1, h2⟩ := rs1.list ex
      exact ⟨_, ws, rx, h1, fun l hl => .lst e1 rs1 hl h2.reverse (q1.at (rs1.none_of hl))⟩
    · exact q1.elim
  · rw [rt_fl] at rx
    obtain ⟨a, ws, rfl, h1, h2⟩ := rx
    exact ⟨_, ws, rfl, h1.sqL, fun l hl => .lst e1 rs1 hl h2.reverse (q1.at (rs1.none_of hl))⟩
  · exact q1.elim
end
/-! methods -/
def tm1 (o : O2) (ta tb : TTE) : TTE := fun ρ S Q => ta ρ S fun x S1 => tb ρ S1 fun y S2 => o x y S2 Q
def oAppend : O2 := fun x y S Q => match x with
  | .adr a => (match S a with | some (.lst xs) => xs.length < sizeLine ∧ Q .non (S.set a (.lst (xs ++ [y]))) | _ => False)
  | _ => False
def oPop0 (x : T) (S : Sto) (Q : T → Sto → Prop) : Prop := match x with
  | .adr a => (match S a with | some (.lst xs) => (match xs[xs.length - 1]? with | some y => Q y (S.set a (.lst xs.dropLast)) | none => False) | _ => False)
  | _ => False
def oPopAt : O2 := fun x y S Q => match x, y with
  | .adr a, .int i => (match S a with
    | some (.lst xs) => (-(2 ^ 63) ≤ i ∧ i < 2 ^ 63) ∧ (match seqIndex? i xs.length with
      | some k => (match xs[k]? with | some z => Q z (S.set a (.lst (xs.eraseIdx k))) | none => False)
      | none => False)
    | _ => False)
  | _, _ => False
/-- the object's list is there before the argument is evaluated -/
def isLst (S : Sto) : T → Prop | .adr a => (lstAt S a).isSome = true | _ => False
def tml (o : O2) (ta : TTE) (tb : TTE) : TTE := fun ρ S Q => ta ρ S fun x S1 => isLst S1 x ∧ tb ρ S1 fun y S2 => o x y S2 Q
def tml0 (o : T → Sto → (T → Sto → Prop) → Prop) (ta : TTE) : TTE := fun ρ S Q => ta ρ S fun x S1 => isLst S1 x ∧ o x S1 Q
theorem Ext.lset {H : Hp} {p : Addr} {xs ys : List V} (h : H p = some (.lst xs)) : Ext H (upd H p (.lst ys)) := .write h (fun _ z => nomatch z) (fun _ _ z => nomatch z)
section
variable {X : Cx} {o e : Expr} {to te : TTE} {apos cpos : Pos}
theorem ty_lst {S : Sto} {H : Hp} {x : T} {v : V} (rs : RelS (zx X) S H) (r : RT (zx X) H x v) (h : isLst S x) : tyV X.K "list" v H := by
  cases x with
  | adr a =>
    rw [rt_adr] at r
    subst r
    obtain ⟨xs, e⟩ := Option.isSome_iff_exists.mp (show (lstAt S a).isSome = true from h)
    obtain ⟨vs, h1, _⟩ := rs.list e
    exact .inl ⟨rfl, vs, h1⟩
  | _ => exact h.elim
theorem q_append (ho : QE X o to) (he : QE X e te) (hbase : attributeBase o "append" X.env (eval o X.env) = eval o X.env := by rfl)
    (hfew : ((backTo cpos (starEach [e] X.env)).all (fun x => !x.1) && (backToKw cpos (keywordEach [] X.env)).all (fun x => x.1.isSome)
      && decide ([e].length + ([] : List Keyword).length + (if ([] : List Keyword).isEmpty then 0 else 1) < 30)) = true := by rfl)
    (hline : (apos.endLine == cpos.line) = true := by rfl) (hs : starEach [e] X.env = (false, eval e X.env) :: starEach [] X.env := by rfl) (hplain : (backTo cpos (starEach [] X.env)).any (·.1) = false := by rfl) :
    QE X (.Call (.Attribute o "append" apos) [e] [] cpos) (tml oAppend to te) :=
  qe_of (pe_bm F.plainAttrs_list F.slot_list_append F.type_list_append mt_append ho (pa_cons he pa_nil hs) hbase hfew hline hs hplain) fun σ H ρ S Q rs re q => LE.mk rs re q fun x S1 v H1 e1 rs1 rx q1 => by
    refine ⟨ty_lst rs1 rx q1.1, LE.mk rs1 (re.ext e1) q1.2 fun y S2 u H2 e2 rs2 ry q2 => ?_⟩
    unfold oAppend at q2
    split at q2
    · rw [rt_adr] at rx
      split at q2
      · rename_i xs ex
        obtain ⟨ws, h1, h2⟩ := rs2 _ _ ex
        exact ⟨_, ws, u, rx, rfl, h1, by rw [← h2.length]; exact q2.1, .non, _, (e1.trans e2).trans (.lset h1), rs2.put (m := .lst (xs ++ [y])) (.lset h1) ⟨_, upd_same, RTs.ext (.lset h1) _ (h2.append (.cons ry .nil))⟩, by rw [rt_non], q2.2⟩
      · exact q2.elim
    · exact q2.elim
theorem RTs.dropLast {K : Zk} {H : Hp} : ∀ {ts : List T} {vs : List V}, RTs K H ts vs → RTs K H ts.dropLast vs.dropLast := fun {ts vs} h => by
  rw [List.dropLast_eq_take, List.dropLast_eq_take, ← h.length]
  exact h.take _
theorem RTs.erase {K : Zk} {H : Hp} : ∀ {ts : List T} {vs : List V} (k : Nat), RTs K H ts vs → RTs K H (ts.eraseIdx k) (vs.eraseIdx k)
  | [], vs, k, h => by rw [rts_nil] at h; subst h; exact .nil
  | t :: ts, vs, 0, h => by rw [rts_cons] at h; obtain ⟨v, r, rfl, _, h2⟩ := h; exact h2
  | t :: ts, vs, k + 1, h => by rw [rts_cons] at h; obtain ⟨v, r, rfl, h1, h2⟩ := h; exact .cons h1 (RTs.erase k h2)
theorem q_pop0 (ho : QE X o to) (hbase : attributeBase o "pop" X.env (eval o X.env) = eval o X.env := by rfl) (hline : (apos.endLine == cpos.line) = true := by rfl) :
    QE X (.Call (.Attribute o "pop" apos) [] [] cpos) (tml0 oPop0 to) :=
  qe_of (pe_bm0 F.plainAttrs_list F.slot_list_pop F.type_list_pop mt_pop ho hbase hline) fun σ H ρ S Q rs re q => LE.mk rs re q fun x S1 v H1 e1 rs1 rx q1 => by
    refine ⟨ty_lst rs1 rx q1.1, ?_⟩
    have q2 := q1.2
    unfold oPop0 at q2
    split at q2
    · rw [rt_adr] at rx
      split at q2
      · rename_i xs ex
        split at q2
        · rename_i y ey
          obtain ⟨ws, h1, h2⟩ := rs1 _ _ ex
          obtain ⟨u, hu, ru⟩ := h2.get ey
          rw [h2.length] at hu
          exact ⟨_, ws, u, rx, rfl, h1, hu, y, _, e1.trans (.lset h1), rs1.put (m := .lst xs.dropLast) (.lset h1) ⟨_, upd_same, RTs.ext (.lset h1) _ h2.dropLast⟩, RT.ext (.lset h1) _ ru, q2⟩
        · exact q2.elim
      · exact q2.elim
    · exact q2.elim
theorem q_popAt (ho : QE X o to) (he : QE X e te) (hbase : attributeBase o "pop" X.env (eval o X.env) = eval o X.env := by rfl)
    (hfew : ((backTo cpos (starEach [e] X.env)).all (fun x => !x.1) && (backToKw cpos (keywordEach [] X.env)).all (fun x => x.1.isSome)
      && decide ([e].length + ([] : List Keyword).length + (if ([] : List Keyword).isEmpty then 0 else 1) < 30)) = true := by rfl)
    (hline : (apos.endLine == cpos.line) = true := by rfl) (hs : starEach [e] X.env = (false, eval e X.env) :: starEach [] X.env := by rfl) (hplain : (backTo cpos (starEach [] X.env)).any (·.1) = false := by rfl) :
    QE X (.Call (.Attribute o "pop" apos) [e] [] cpos) (tml oPopAt to te) :=
  qe_of (pe_bm F.plainAttrs_list F.slot_list_pop F.type_list_pop mt_popAt ho (pa_cons he pa_nil hs) hbase hfew hline hs hplain) fun σ H ρ S Q rs re q => LE.mk rs re q fun x S1 v H1 e1 rs1 rx q1 => by
    refine ⟨ty_lst rs1 rx q1.1, LE.mk rs1 (re.ext e1) q1.2 fun y S2 u H2 e2 rs2 ry q2 => ?_⟩
    unfold oPopAt at q2
    split at q2
    · rw [rt_adr] at rx
      rw [rt_int] at ry
      split at q2
      · rename_i xs ex
        obtain ⟨hb, q2⟩ := q2
        split at q2
        · rename_i k ek
          split at q2
          · rename_i z ez
            obtain ⟨ws, h1, h2⟩ := rs2 _ _ ex
            obtain ⟨wz, hz, rz⟩ := h2.get ez
            exact ⟨_, ws, _, k, wz, rx, by rw [ry], h1, hb.1, hb.2, by rw [← h2.length]; exact ek, hz, z, _, (e1.trans e2).trans (.lset h1), rs2.put (m := .lst (xs.eraseIdx k)) (.lset h1) ⟨_, upd_same, RTs.ext (.lset h1) _ (h2.erase k)⟩, RT.ext (.lset h1) _ rz, q2⟩
          · exact q2.elim
        · exact q2.elim
      · exact q2.elim
    · exact q2.elim
end
/-! ''.join(list of texts) -/
def strsT : List T → Option (List Str)
  | [] => some []
  | .str i :: r => (strsT r).map (i :: ·)
  | _ :: _ => none
theorem strsT_of : ∀ {ts : List T} {ns : List Str}, strsT ts = some ns → ts = ns.map T.str
  | [], ns, e => by cases e; rfl
  | .str i :: r, ns, e => by
    have e : (strsT r).map (i :: ·) = some ns := e
    cases e1 : strsT r with
    | none => rw [e1] at e; cases e
    | some l => rw [e1] at e; cases e; rw [strsT_of e1]; rfl
theorem strsT_map (ns : List Str) : strsT (ns.map T.str) = some ns := by
  induction ns with
  | nil => rfl
  | cons n ns ih => show (strsT (ns.map T.str)).map (n :: ·) = _; rw [ih]; rfl
def oJoin : O2 := fun x y S Q => match x with
  | .str z => (match (match y with | .tup xs => strsT xs | .adr a => (lstAt S a).bind strsT | _ => none) with
    | some ys => (ys.map (·.length)).sum + ys.length * z.length ≤ 16777216 ∧ Q (.str (Txt.join z ys)) S
    | none => False)
  | _ => False
def isStrT : T → Prop | .str _ => True | _ => False
def tmj (o : O2) (ta : TTE) (tb : TTE) : TTE := fun ρ S Q => ta ρ S fun x S1 => isStrT x ∧ tb ρ S1 fun y S2 => o x y S2 Q
section
variable {X : Cx} {o e : Expr} {to te : TTE} {apos pos : Pos}
theorem q_join (ho : QE X o to) (he : QE X e te) (hs : starEach [e] X.env = [(false, eval e X.env)] := by rfl) (hbase : attributeBase o "join" X.env (eval o X.env) = eval o X.env := by rfl) (hline : (apos.endLine == pos.line) = true := by rfl) :
    QE X (.Call (.Attribute o "join" apos) [e] [] pos) (tmj oJoin to te) :=
  qe_of (pe_join ho he hs hbase hline) fun σ H ρ S Q rs re q => LE.mk rs re q fun x S1 v H1 e1 rs1 rx q1 => by
    refine ⟨?_, LE.mk rs1 (re.ext e1) q1.2 fun y S2 u H2 e2 rs2 ry q2 => ?_⟩
    · cases x with
      | str z => rw [rt_str] at rx; exact ⟨_, rx⟩
      | _ => exact q1.1.elim
    unfold oJoin at q2
    split at q2
    · rw [rt_str] at rx
      split at q2
      · rename_i ys ey
        have : ∃ p, u = .ref p ∧ (SqL X.K H2 p (ys.map V.str) ∨ SqT X.K H2 p (ys.map V.str)) := by
          split at ey
          · rw [rt_tup] at ry
            obtain ⟨a, ws, rfl, h1, h2⟩ := ry
            rw [strsT_of ey] at h2
            rw [h2.strs] at h1
            exact ⟨a, rfl, .inr h1.sqT⟩
          · rw [rt_adr] at ry
            obtain ⟨xs, f1, f2⟩ := Option.bind_eq_some_iff.mp ey
            obtain ⟨ws, h1, h2⟩ := rs2.list f1
            rw [strsT_of f2] at h2
            rw [h2.strs] at h1
            exact ⟨_, ry, .inl h1⟩
          · cases ey
        obtain ⟨p, rfl, h⟩ := this
        exact ⟨_, p, ys, rx, rfl, h, q2.1, .here (e1.trans e2) rs2 (by rw [rt_str]) q2.2⟩
      · exact q2.elim
    · exact q2.elim
end
end TL
set_option Elab.async false
set_option linter.all false
set_option maxRecDepth 100000
set_option maxHeartbeats 1000000
/-! TL8: dict(pairs), sorted(dict), isinstance, repr over T. -/
namespace TL
open PySem PySem.Spec PyProof.Rows L2

/-- a rule that is told by its reading over T -/
def rT (K : Zk) (o : OA) : List V → Hp → VK → Prop := fun vs H R => ∃ ts S Q, RelS K S H ∧ RTs K H ts vs ∧ o ts S Q ∧ ∀ v H', WE K H Q v H' → R v H'
theorem oa_T {K : Zk} {o : OA} : OpA K (rT K o) o := fun ts vs S H H0 Q R e rs rr q k => ⟨ts, S, Q, rs, rr, q, fun v H' w => k v H' (w.ext e)⟩

/-! dict(pairs) -/
def pairsT : List T → Option (List (T × T))
  | [] => some []
  | .tup [x, y] :: r => (pairsT r).map ((x, y) :: ·)
  | _ => none
theorem pairsT_cons {z : T} {xs : List T} {prs : List (T × T)} (e : pairsT (z :: xs) = some prs) : ∃ x y prs', z = .tup [x, y] ∧ pairsT xs = some prs' ∧ prs = (x, y) :: prs' := by
  match z, e with
  | .tup [x, y], e =>
    have e : (pairsT xs).map ((x, y) :: ·) = some prs := e
    obtain ⟨p, h1, h2⟩ := Option.map_eq_some_iff.mp e
    exact ⟨x, y, p, rfl, h1, h2.symm⟩
  | .tup [], e => cases e
  | .tup [_], e => cases e
  | .tup (_ :: _ :: _ :: _), e => cases e
  | .non, e => cases e
  | .bl _, e => cases e
  | .int _, e => cases e
  | .str _, e => cases e
  | .fl _, e => cases e
  | .adr _, e => cases e
def keysX : List (T × T) → Option (List (List Key × T))
  | [] => some []
  | (.tup xs, y) :: r => (keysT xs).bind fun k => (keysX r).map ((k, y) :: ·)
  | _ => none
def oDict : OA := fun ts S Q => match ts with
  | [x] => (match (sqT? S x).bind (fun p => pairsT p.2) with
    | some prs => prs.length ≤ sizeLine ∧ ((∃ kvs, keysOf prs = some kvs ∧ NewO S (.dk (mergeT [] kvs)) Q) ∨
        (∃ kvs, keysX prs = some kvs ∧ NewO S (.dx (mergeT [] kvs)) Q))
    | none => False)
  | _ => False
section
variable {X : Cx} {pins : List (Addr × Obj)} {σ : L2.St} {H : Hp} {s : Shared}
theorem plain_of (I : Inv X pins σ H s) {S : Sto} (rs : RelS (zx X) S H) {x : T} {v : V} (r : RT (zx X) H x v) {k : Bool} {xs : List T} (e : sqT? S x = some (k, xs)) :
    ∃ a vs its, v = .ref a ∧ RTs (zx X) H xs vs ∧ Vals vs its ∧ vs.length ≤ sizeLine ∧ ∃ Ty : String, (Ty = "tuple" ∨ Ty = "list") ∧ PlainSeq Ty s.heap a its.toArray := by
  cases x with
  | tup ys =>
    cases e
    rw [rt_tup] at r
    obtain ⟨a, vs, h1, h2, h3⟩ := r
    obtain ⟨its, rv, p, hz⟩ := I.tuple h2.sqT
    refine ⟨a, vs, its, h1, h3, rv, hz, "tuple", .inl rfl, ?_⟩
    obtain ⟨o, ho, hc, n, hd⟩ := p
    rcases h2 with ⟨ob, hH, hn⟩ | ⟨ob, its', n', hk, _, hn, _⟩
    · obtain ⟨e1, _⟩ := (show ObjOk X.prog X.w H s.heap a (.frz ob (.tup vs)) from I.hok a _ hH)
      rw [ho] at e1; cases e1
      exact ⟨o, n, ho, hc, hn, hd⟩
    · have e1 := I.kIn a ob hk
      rw [ho] at e1; cases e1
      exact ⟨o, n, ho, hc, hn, hd⟩
  | fl ys =>
    cases e
    rw [rt_fl] at r
    obtain ⟨a, vs, h1, h2, h3⟩ := r
    obtain ⟨its, rv, ⟨o, n, p1, p2, p3, p4⟩, hz⟩ := I.list h2.sqL
    exact ⟨a, vs, its, h1, h3, rv, hz, "list", .inr rfl, o, n, p1, p2, p3, p4⟩
  | adr a =>
    rw [rt_adr] at r
    have e : (lstAt S a).map (fun xs => (false, xs)) = some (k, xs) := e
    cases e1 : lstAt S a with
    | none => rw [e1] at e; cases e
    | some ys =>
      rw [e1] at e; cases e
      obtain ⟨vs, h1, h2⟩ := rs.list e1
      obtain ⟨its, rv, ⟨o, n, p1, p2, p3, p4⟩, hz⟩ := I.list h1
      exact ⟨a, vs, its, r, h2, rv, hz, "list", .inr rfl, o, n, p1, p2, p3, p4⟩
  | _ => cases e
abbrev RPV (K : Zk) (H : Hp) : List (T × T) → List (Value × Value) → Prop := Paired fun p q => (∃ v, RelV v q.1 ∧ RT K H p.1 v) ∧ ∃ v, RelV v q.2 ∧ RT K H p.2 v
theorem pairs_at (I : Inv X pins σ H s) : ∀ {xs : List T} {prs : List (T × T)} {vs : List V} {us : List Value}, pairsT xs = some prs → RTs (zx X) H xs vs → Vals vs us →
    ∃ (as : List Addr) (ps : List (Value × Value)), us = as.map Value.ref ∧ as.length = ps.length ∧ RPV (zx X) H prs ps ∧ ∀ (j : Nat) (q : Value × Value), ps[j]? = some q → ∃ b, as[j]? = some b ∧ PairAt s.heap b q.1 q.2
  | [], prs, vs, us, e, h, r => by
    cases e
    rw [rts_nil] at h
    subst h
    cases r
    exact ⟨[], [], rfl, rfl, .nil, fun j q e => by simp at e⟩
  | z :: xs, prs, vs, us, e, h, r => by
    obtain ⟨x', y', prs', rfl, e1, rfl⟩ := pairsT_cons e
    rw [rts_cons] at h
    obtain ⟨v, vs', rfl, h1, h2⟩ := h
    rw [rt_tup] at h1
    obtain ⟨a, ws, rfl, g1, g2⟩ := h1
    obtain ⟨w1, w2, rfl, k1, k2⟩ := g2.two'
    cases r with
    | cons ra rb =>
      cases ra
      obtain ⟨its, rv, p, _⟩ := I.tuple g1.sqT
      obtain ⟨u1, u2, ei, ru1, ru2⟩ := vals2 rv
      subst ei
      obtain ⟨as, ps, f1, f2, f3, f4⟩ := pairs_at I e1 h2 rb
      refine ⟨a :: as, (u1, u2) :: ps, by rw [f1]; rfl, by rw [List.length_cons, List.length_cons, f2], .cons ⟨⟨w1, ru1, k1⟩, w2, ru2, k2⟩ f3, fun j q e => ?_⟩
      cases j with
      | zero => cases e; exact ⟨a, rfl, .inl p⟩
      | succ j => simpa using f4 j q (by simpa using e)
theorem RPV.length {K : Zk} {H : Hp} : ∀ {prs : List (T × T)} {ps : List (Value × Value)}, RPV K H prs ps → prs.length = ps.length
  | _, _, .nil => rfl
  | _, _, .cons _ t => by rw [List.length_cons, List.length_cons, RPV.length t]
theorem keys_k {K : Zk} {H : Hp} {P : Program} {w : World} : ∀ {prs : List (T × T)} {ps : List (Value × Value)} {kvs : List (Key × T)}, RPV K H prs ps → keysOf prs = some kvs →
    ∃ (kv : List (Key × V)) (kw : List (Key × Value)), RKs K H kvs kv ∧ KV kv kw ∧ kw.length = ps.length ∧ ∀ (i : Nat) (q : Value × Value), ps[i]? = some q → ∃ k, kw[i]? = some (k, q.2) ∧ (mixKind P w).is k q.1 = true
  | _, _, kvs, .nil, e => by cases e; exact ⟨[], [], .nil, .nil, rfl, fun i q e => by simp at e⟩
  | (x, y) :: prs, q :: ps, kvs, .cons h t, e => by
    unfold keysOf at e
    cases e1 : keyT x with
    | none => rw [e1] at e; cases e
    | some k =>
      rw [e1] at e
      cases e2 : keysOf prs with
      | none => rw [e2] at e; cases e
      | some ks =>
        rw [e2] at e
        cases e
        obtain ⟨kv, kw, a1, a2, a3, a4⟩ := keys_k (P := P) (w := w) t e2
        obtain ⟨⟨v1, r1, t1⟩, v2, r2, t2⟩ := h
        refine ⟨(k, v2) :: kv, (k, q.2) :: kw, .cons ⟨rfl, t2⟩ a1, .cons ⟨rfl, r2⟩ a2, by rw [List.length_cons, List.length_cons, a3], fun i q' e => ?_⟩
        cases i with
        | zero => cases e; exact ⟨k, rfl, kV_is (by rw [← keyT_of t1 e1]; exact r1)⟩
        | succ i => simpa using a4 i q' (by simpa using e)
theorem keys_x {K : Zk} {H : Hp} : ∀ {prs : List (T × T)} {ps : List (Value × Value)} {kvs : List (List Key × T)}, RPV K H prs ps → keysX prs = some kvs →
    ∃ xs : List (List Key × Addr × Value), RXs K H kvs xs ∧ xs.length = ps.length ∧ ∀ (i : Nat) (q : Value × Value), ps[i]? = some q → ∃ k b, xs[i]? = some (k, b, q.2) ∧ q.1 = .ref b
  | _, _, kvs, .nil, e => by cases e; exact ⟨[], .nil, rfl, fun i q e => by simp at e⟩
  | (x, y) :: prs, q :: ps, kvs, .cons h t, e => by
    match x, h, e with
    | .tup xs, h, e =>
      have e : ((keysT xs).bind fun k => (keysX prs).map ((k, y) :: ·)) = some kvs := e
      cases e1 : keysT xs with
      | none => rw [e1] at e; cases e
      | some k =>
        rw [e1] at e
        cases e2 : keysX prs with
        | none => rw [e2] at e; cases e
        | some ks =>
          rw [e2] at e
          cases e
          obtain ⟨xs', a1, a3, a4⟩ := keys_x t e2
          obtain ⟨⟨v1, r1, t1⟩, v2, r2, t2⟩ := h
          rw [rt_tup] at t1
          obtain ⟨b, ws, rfl, g1, g2⟩ := t1
          refine ⟨(k, b, q.2) :: xs', .cons ⟨rfl, by rw [← keysT_of g2 e1]; exact g1.sqT, v2, r2, t2⟩ a1, by rw [List.length_cons, List.length_cons, a3], fun i q' e => ?_⟩
          cases i with
          | zero => cases e; exact ⟨k, b, rfl, r1⟩
          | succ i => simpa using a4 i q' (by simpa using e)
    | .non, _, e => cases e
    | .bl _, _, e => cases e
    | .int _, _, e => cases e
    | .str _, _, e => cases e
    | .fl _, _, e => cases e
    | .adr _, _, e => cases e
theorem RXs.atKey {K : Zk} {H : Hp} : ∀ {kvs : List (List Key × T)} {xs : List (List Key × Addr × Value)} (k : List Key), RXs K H kvs xs → (kvs.any fun kv => decide (kv.1 = k)) = (atKey xs k).isSome
  | _, _, k, .nil => rfl
  | p :: ps, q :: qs, k, .cons h t => by
    rw [List.any_cons, RXs.atKey k t]
    unfold PySem.atKey
    rw [List.find?_cons]
    by_cases e : q.1 = k
    · simp [h.1, e]
    · simp [h.1, e]
theorem RXs.snoc {K : Zk} {H : Hp} : ∀ {kvs : List (List Key × T)} {xs : List (List Key × Addr × Value)} {p : List Key × T} {q : List Key × Addr × Value}, RXs K H kvs xs → (p.1 = q.1 ∧ SqT K.K H q.2.1 (p.1.map kV) ∧ ∃ v, RelV v q.2.2 ∧ RT K H p.2 v) → RXs K H (kvs ++ [p]) (xs ++ [q])
  | _, _, _, _, .nil, h => .cons h .nil
  | _, _, _, _, .cons r t, h => .cons r (RXs.snoc t h)
theorem RXs.repl {K : Zk} {H : Hp} : ∀ {kvs : List (List Key × T)} {xs : List (List Key × Addr × Value)} (k : List Key) {t : T} {u : Value}, RXs K H kvs xs → (∃ v, RelV v u ∧ RT K H t v) → RXs K H (kvs.map fun p => if p.1 = k then (p.1, t) else p) (xs.map (putAt k u))
  | _, _, k, t, u, .nil, _ => .nil
  | p :: ps, q :: qs, k, t, u, .cons h r, z => by
    rw [List.map_cons, List.map_cons]
    refine .cons ?_ (RXs.repl k r z)
    unfold putAt
    by_cases e : p.1 = k
    · rw [if_pos e, if_pos (h.1.symm.trans e)]; exact ⟨h.1, h.2.1, z⟩
    · rw [if_neg e, if_neg (fun z => e (h.1.trans z))]; exact h
theorem RXs.put {K : Zk} {H : Hp} {kvs : List (List Key × T)} {xs : List (List Key × Addr × Value)} (k : List Key) {a : Addr} {t : T} {u : Value} (r : RXs K H kvs xs) (hk : SqT K.K H a (k.map kV)) (z : ∃ v, RelV v u ∧ RT K H t v) :
    RXs K H (putT kvs k t) (storedH xs k a u) := by
  unfold putT storedH
  rw [r.atKey k]
  split
  · exact r.repl k z
  · exact r.snoc ⟨rfl, hk, z⟩
theorem RXs.merge {K : Zk} {H : Hp} : ∀ {more : List (List Key × T)} {mx : List (List Key × Addr × Value)} {kvs : List (List Key × T)} {xs : List (List Key × Addr × Value)}, RXs K H more mx → RXs K H kvs xs → RXs K H (mergeT kvs more) (storedAllH xs mx)
  | _, _, _, _, .nil, r => r
  | p :: ps, q :: qs, kvs, xs, .cons h t, r => by
    show RXs K H (mergeT (putT kvs p.1 p.2) ps) (storedAllH (storedH xs q.1 q.2.1 q.2.2) qs)
    rw [← h.1]
    exact RXs.merge t (r.put p.1 h.2.1 h.2.2)
theorem RXs.mem {K : Zk} {H : Hp} : ∀ {kvs : List (List Key × T)} {xs : List (List Key × Addr × Value)}, RXs K H kvs xs → ∀ q ∈ xs, SqT K.K H q.2.1 (q.1.map kV)
  | _, _, .nil => fun q h => nomatch h
  | p :: ps, q :: qs, .cons h t => fun x hx => by
    rcases List.mem_cons.mp hx with e | hx
    · subst e; rw [← h.1]; exact h.2.1
    · exact RXs.mem t x hx
theorem call_dictT (hc : X.calm = true) (hu : X.A.units + 200 < cLine) : CallR X (.type "dict") (rT (zx X) oDict) := by
  intro pins s σ H xs us R I r ⟨ts, S, Q, rs, rr, q, m⟩
  unfold oDict at q
  split at q
  · rename_i x
    split at q
    · rename_i prs ep
      obtain ⟨⟨k, ys⟩, e1, e2⟩ := Option.bind_eq_some_iff.mp ep
      obtain ⟨v, rfl, rx⟩ := rr.one'
      obtain ⟨a, vs, its, rfl, rt, rv, hz, Ty, hTy, pl⟩ := plain_of I rs rx e1
      obtain ⟨u, rfl, ru⟩ := vals1 r
      cases ru
      obtain ⟨as, ps, f1, f2, f3, f4⟩ := pairs_at I e2 rt rv
      obtain ⟨hpl, q⟩ := q
      have hn : ps.length ≤ sizeLine := by rw [← f3.length]; exact hpl
      have items : PairItems s.heap its.toArray (fun j => as.getD j 0) ps := by
        refine ⟨by rw [List.size_toArray, f1, List.length_map, f2], fun j k v e => ?_⟩
        obtain ⟨b, hb, hp⟩ := f4 j (k, v) e
        refine ⟨?_, ?_⟩
        · rw [f1]; simp [List.getD_eq_getElem?_getD, hb]
        · show PairAt s.heap (as.getD j 0) k v
          rw [show as.getD j 0 = b by simp [List.getD_eq_getElem?_getD, hb]]; exact hp
      have hm : (s.heap.objs.size == sysModules) = false := beq_eq_false_iff_ne.mpr (Nat.ne_of_gt I.big)
      have P : PairArg X.prog X.w Ty a (a :: (List.range ps.length).map (fun j => as.getD j 0)) [] ps.length (PairRel ps) (fun h => PlainSeq Ty h a its.toArray ∧ PairItems h its.toArray (fun j => as.getD j 0) ps) := by
        rcases hTy with rfl | rfl
        · exact PairArg.tuple a its.toArray _ ps
        · exact PairArg.list a its.toArray _ ps
      rcases q with ⟨kvs, ek, q⟩ | ⟨kvs, ek, q⟩
      · obtain ⟨kv, kw, a1, a2, a3, a4⟩ := keys_k (P := X.prog) (w := X.w) f3 ek
        refine PySem.call_dict_pairs (knd := mixKind X.prog X.w) (kvs := kw) P (I.ok.hd hc) ⟨pl, items⟩ ⟨a3, fun i key v e => a4 i (key, v) e⟩ hn fun h' tk hd' hk => ?_
        have hf : H s.heap.objs.size = none := I.hok.fresh (Nat.le_refl _)
        have hlen : (mergeK [] kv).length ≤ sizeLine := by
          refine Nat.le_trans (length_mergeK kv []) ?_
          rw [List.length_nil, Nat.zero_add, a2.length, a3]
          exact hn
        refine ⟨.ref s.heap.objs.size, upd H s.heap.objs.size (.dK (mergeK [] kv)), I.laid (t' := tk) (fun b o e => hk b o (by simp) e) (Nat.le_refl _) (show ObjOk X.prog X.w _ _ _ (.dK (mergeK [] kv)) from ⟨hlen, hm, merged [] kw, KV.merge a2 .nil, hd'⟩), rfl, m _ _ ?_⟩
        exact .laid (m := .dk (mergeT [] kvs)) (.refl _) rs hf ⟨_, upd_same, (a1.ext (.new hf)).merge .nil⟩ (q.at (rs.none_of hf))
      · obtain ⟨xs, a1, a3, a4⟩ := keys_x f3 ek
        have kst : KeysStay (tupleKind (mixKind X.prog X.w)) s.heap s.heap.objs.size [] xs := fun h' hk x hx => by
          obtain ⟨o, items, n, g1, g2, g3, g4⟩ := key_ofQ I (a1.mem x hx)
          exact ⟨o, items, n, hk _ _ (Nat.ne_of_lt (Heap.lt_size g1)) (by simp) g1, g2, g3, g4⟩
        refine PySem.call_dict_pairsH (knd := tupleKind (mixKind X.prog X.w)) (ps := xs) P (I.ok.hd hc) (show X.A.in1.in1.units < cLine by show X.A.units + 1 + 1 < cLine; omega) ⟨pl, items⟩ ⟨a3, fun i key v e => a4 i (key, v) e⟩ kst hn fun h' tk hd' hk => ?_
        have hf : H s.heap.objs.size = none := I.hok.fresh (Nat.le_refl _)
        obtain ⟨o, es, ep', d1, d2, d3, d4, _, d6⟩ := hd'
        have hlen : (storedAllH [] xs).length ≤ sizeLine := by
          refine Nat.le_trans (storedAllH_length xs []) ?_
          rw [List.length_nil, Nat.zero_add, a3]
          exact hn
        refine ⟨.ref s.heap.objs.size, upd H s.heap.objs.size (.ext (DxAt (zx X) s.heap.objs.size (storedAllH [] xs))), I.laid (t' := tk) (fun b o e => hk b o (by simp) e) (Nat.le_refl _) ?_, rfl, m _ _ ?_⟩
        · refine ⟨⟨hm, hlen, o, es, ep', d1, d2, d3, d4, d6⟩, ⟨o, d1⟩, fun h1 h2 ⟨b1, b2, o', es', ep'', c1, c2⟩ k => ⟨b1, b2, o', es', ep'', k o' c1, c2⟩⟩
        · exact .laid (m := .dx (mergeT [] kvs)) (.refl _) rs hf ⟨_, upd_same, (a1.ext (.new hf)).merge .nil⟩ (q.at (rs.none_of hf))
    · exact q.elim
  · exact q.elim
variable {p pos p2 : Pos} {e : Expr} {es : List Expr} {t : TTA} {te : TTE}
theorem q_dict (hc : X.calm = true) (hu : X.A.units + 200 < cLine) (hg : Gl X "dict") (hm : X.mg "dict" = none) (ha : QA X (e :: es) t) (he : starEach (e :: es) X.env = (false, eval e X.env) :: starEach es X.env := by rfl) (hpl : (backTo pos (starEach es X.env)).any (·.1) = false := by rfl) :
    QE X (.Call (.Name "dict" p) (e :: es) [] pos) (tbi oDict t) := q_ty (call_dictT hc hu) oa_T hg hm (by decide +kernel) ha (by decide) (by decide) he hpl
end
/-! sorted(d) -/
def keyStrs : List Key → Option (List Str)
  | [] => some []
  | .inr x :: r => (keyStrs r).map (x :: ·)
  | _ => none
theorem keyStrs_of : ∀ {ks : List Key} {xs : List Str}, keyStrs ks = some xs → ks = xs.map Sum.inr
  | [], _, e => by cases e; rfl
  | .inr x :: r, xs, e => by
    have e : (keyStrs r).map (x :: ·) = some xs := e
    cases e1 : keyStrs r with
    | none => rw [e1] at e; cases e
    | some l => rw [e1] at e; cases e; rw [keyStrs_of e1]; rfl
  | .inl _ :: _, _, e => by cases e
def oSorted : OA := fun ts S Q => match ts with
  | [.adr a] => (match S a with
    | some (.dk kvs) => (match keyStrs (kvs.map (·.1)) with
      | some ks => ks.length < 64 ∧ ∀ ys, ys.Perm ks → sortedS ys = true → NewO S (.lst (ys.map T.str)) Q
      | none => False)
    | _ => False)
  | _ => False
section
variable {X : Cx} {p pos p2 : Pos} {e : Expr} {es : List Expr} {t : TTA} {te : TTE}
theorem RKs.keys {κ : Type} {K : Zk} {H : Hp} : ∀ {kvs : List (κ × T)} {kv : List (κ × V)}, RKs K H kvs kv → kvs.map (·.1) = kv.map (·.1)
  | _, _, .nil => rfl
  | _, _, .cons h t => by rw [List.map_cons, List.map_cons, h.1, RKs.keys t]
theorem q_sorted (hc : X.calm = true) (hg : Gl X "sorted") (hm : X.mg "sorted" = none) (ha : QA X (e :: es) t) (he : starEach (e :: es) X.env = (false, eval e X.env) :: starEach es X.env := by rfl) (hpl : (backTo pos (starEach es X.env)).any (·.1) = false := by rfl) :
    QE X (.Call (.Name "sorted" p) (e :: es) [] pos) (tbi oSorted t) := by
  refine q_bi (call_sortedD hc) (fun ts vs S H H0 Q R e rs rr q k => ?_) hg hm (by decide +kernel) ha (by decide) (by decide) he hpl
  unfold oSorted at q
  split at q
  · obtain ⟨v, rfl, h⟩ := rr.one'
    rw [rt_adr] at h
    subst h
    split at q
    · rename_i kvs ex
      split at q
      · rename_i ks ek
        obtain ⟨kv, h1, h2⟩ := rs _ _ ex
        refine ⟨_, kv, ks, rfl, .inl h1, by rw [← h2.keys, keyStrs_of ek], q.1, fun ys p hp hs hH => k _ _ (.lst e rs hH RTs.of_strs ((q.2 ys hp hs).at (rs.none_of hH)))⟩
      · exact q.elim
    · exact q.elim
  · exact q.elim
end
end TL
set_option Elab.async false
set_option linter.all false
set_option maxRecDepth 100000
set_option maxHeartbeats 1000000
/-! TL9: isinstance, repr over T. -/
namespace TL
open PySem PySem.Spec PyProof.Rows L2
def tyT (S : Sto) : T → Option String
  | .non => some "NoneType"
  | .bl _ => some "bool"
  | .int _ => some "int"
  | .str _ => some "str"
  | .tup _ => some "tuple"
  | .fl _ => some "list"
  | .adr a => (match S a with | some (.lst _) => some "list" | some (.dk _) => some "dict" | _ => none)
def isB (t Ty : String) : Bool := t == Ty || (t == "bool" && Ty == "int")
def tisi (Ty : String) (te : TTE) : TTE := fun ρ S Q => te ρ S fun x S1 => match tyT S1 x with
  | some t => Q (.bl (isB t Ty)) S1
  | none => False
/-- the types that we ask for -/
def tyOk (Ty : String) : Prop := ∀ t ∈ (["NoneType", "bool", "int", "str", "tuple", "list", "dict"] : List String), kitB t Ty = some (isB t Ty)
theorem tyOk_tuple : tyOk "tuple" := by intro t h; simp only [List.mem_cons, List.not_mem_nil, or_false] at h; rcases h with rfl | rfl | rfl | rfl | rfl | rfl | rfl <;> decide +kernel
theorem tyOk_int : tyOk "int" := by intro t h; simp only [List.mem_cons, List.not_mem_nil, or_false] at h; rcases h with rfl | rfl | rfl | rfl | rfl | rfl | rfl <;> decide +kernel
theorem tyOk_str : tyOk "str" := by intro t h; simp only [List.mem_cons, List.not_mem_nil, or_false] at h; rcases h with rfl | rfl | rfl | rfl | rfl | rfl | rfl <;> decide +kernel
theorem tyOk_bool : tyOk "bool" := by intro t h; simp only [List.mem_cons, List.not_mem_nil, or_false] at h; rcases h with rfl | rfl | rfl | rfl | rfl | rfl | rfl <;> decide +kernel
theorem tyOk_list : tyOk "list" := by intro t h; simp only [List.mem_cons, List.not_mem_nil, or_false] at h; rcases h with rfl | rfl | rfl | rfl | rfl | rfl | rfl <;> decide +kernel
theorem tyOk_dict : tyOk "dict" := by intro t h; simp only [List.mem_cons, List.not_mem_nil, or_false] at h; rcases h with rfl | rfl | rfl | rfl | rfl | rfl | rfl <;> decide +kernel
section
variable {X : Cx} {p pos p2 : Pos} {e : Expr} {te : TTE}
theorem tyx_of {K : Zk} {S : Sto} {H : Hp} (rs : RelS K S H) : ∀ {x : T} {v : V} {t : String}, RT K H x v → tyT S x = some t → TyX K.K H v (.type t) ∧ t ∈ (["NoneType", "bool", "int", "str", "tuple", "list", "dict"] : List String) := by
  intro x v t r e
  cases x with
  | non => cases e; rw [rt_non] at r; subst r; exact ⟨.base .non, by simp⟩
  | bl b => cases e; rw [rt_bl] at r; subst r; exact ⟨.base (.bl _), by simp⟩
  | int b => cases e; rw [rt_int] at r; subst r; exact ⟨.base (.int _), by simp⟩
  | str b => cases e; rw [rt_str] at r; subst r; exact ⟨.base (.str _), by simp⟩
  | tup xs =>
    cases e
    rw [rt_tup] at r
    obtain ⟨a, vs, rfl, h, _⟩ := r
    rcases h with ⟨o, h, _⟩ | ⟨o, its, n, h1, h2, _⟩
    · exact ⟨.fTuple h, by simp⟩
    · exact ⟨.kTuple h1 h2, by simp⟩
  | fl xs =>
    cases e
    rw [rt_fl] at r
    obtain ⟨a, vs, rfl, h, _⟩ := r
    rcases h with ⟨o, h⟩ | ⟨o, its, n, h1, h2, _⟩
    · exact ⟨.base (.frz h), by simp⟩
    · exact ⟨.kList h1 h2, by simp⟩
  | adr a =>
    rw [rt_adr] at r
    subst r
    have e : (match S a with | some (.lst _) => some "list" | some (.dk _) => some "dict" | _ => none) = some t := e
    split at e
    · rename_i xs ex
      cases e
      obtain ⟨vs, h1, _⟩ := rs _ _ ex
      exact ⟨.base (.lst h1), by simp⟩
    · rename_i xs ex
      cases e
      obtain ⟨vs, h1, _⟩ := rs _ _ ex
      exact ⟨.base (.dK h1), by simp⟩
    · cases e
theorem q_isi {Ty : Str} {Tn : String} (hg : Gl X "isinstance") (hm : X.mg "isinstance" = none) (hgt : Gl X Ty) (hmt : X.mg Ty = none) (hbt : bootBuiltins Ty = some (.type Tn)) (ok : tyOk Tn) (he : QE X e te)
    (hn : Ty ≠ "__name__" := by decide) (hd : (Ty == ("__debug__" : Str)) = false := by decide)
    (hs : starEach (e :: [.Name Ty p2]) X.env = (false, eval e X.env) :: starEach [.Name Ty p2] X.env := by rfl) (hs2 : starEach [.Name Ty p2] X.env = (false, eval (.Name Ty p2) X.env) :: starEach [] X.env := by rfl)
    (hpl : (backTo pos (starEach [.Name Ty p2] X.env)).any (·.1) = false := by rfl) :
    QE X (.Call (.Name "isinstance" p) [e, .Name Ty p2] [] pos) (tisi Tn te) := by
  refine qe_of (pe_callB call_isi hg hm (by decide +kernel) (pa_cons he (pa_cons (pe_bltn (v := .ty Tn) hgt hmt hbt rfl hn hd) pa_nil hs2) hs) (by decide) (by decide) hs hpl) fun σ H ρ S Q rs re q => LE.mk rs re q fun x S1 v H1 e1 rs1 rx q1 => ?_
  split at q1
  · rename_i t et
    obtain ⟨h1, h2⟩ := tyx_of rs1 rx et
    exact ⟨v, .ty Tn, _, _, _, rfl, .ty Tn, h1, kit_ty (ok t h2), .here e1 rs1 (by rw [rt_bl]) q1⟩
  · exact q1.elim
end
/-! repr -/
mutual
def dataT : T → PyData
  | .non => .none
  | .bl b => .bool b
  | .int i => .int i
  | .str x => .str x
  | .tup xs => .tuple (datasT xs)
  | .fl _ => .none
  | .adr _ => .none
def datasT : List T → List PyData
  | [] => []
  | x :: xs => dataT x :: datasT xs
end
theorem dataT_tup {xs : List T} : dataT (.tup xs) = .tuple (datasT xs) := by conv => lhs; unfold dataT
theorem datasT_cons {x : T} {xs : List T} : datasT (x :: xs) = dataT x :: datasT xs := by conv => lhs; unfold datasT
theorem datasT_nil : datasT [] = [] := by unfold datasT; rfl
mutual
theorem data_noDict : ∀ x : T, (dataT x).hasDict = false
  | .non => by simp [dataT, PyData.hasDict]
  | .bl _ => by simp [dataT, PyData.hasDict]
  | .int _ => by simp [dataT, PyData.hasDict]
  | .str _ => by simp [dataT, PyData.hasDict]
  | .fl _ => by simp [dataT, PyData.hasDict]
  | .adr _ => by simp [dataT, PyData.hasDict]
  | .tup xs => by rw [dataT_tup, PyData.hasDict]; exact datas_noDict xs
theorem datas_noDict : ∀ xs : List T, PyData.hasDictAll (datasT xs) = false
  | [] => by rw [datasT_nil, PyData.hasDictAll]
  | x :: xs => by rw [datasT_cons, PyData.hasDictAll, data_noDict x, datas_noDict xs]; rfl
end
section
variable {X : Cx} {pins : List (Addr × Obj)} {σ : L2.St} {H : Hp} {s : Shared}
mutual
theorem reads_T (I : Inv X pins σ H s) : ∀ (x : T) {v : V} {u : Value}, RT (zx X) H x v → RelV v u → x.pur = true → ∃ as, Reads s.heap u (dataT x) as
  | .non, v, u, h, r, _ => by rw [rt_non] at h; subst h; cases r; exact ⟨_, by unfold dataT; exact .none⟩
  | .bl b, v, u, h, r, _ => by rw [rt_bl] at h; subst h; cases r; exact ⟨_, by unfold dataT; exact .bool b⟩
  | .int i, v, u, h, r, _ => by rw [rt_int] at h; subst h; obtain ⟨t, rfl⟩ := r; exact ⟨_, by unfold dataT; exact .int i t⟩
  | .str i, v, u, h, r, _ => by rw [rt_str] at h; subst h; obtain ⟨t, rfl⟩ := r; exact ⟨_, by unfold dataT; exact .str i t⟩
  | .fl _, v, u, h, r, p => by rw [pur_fl] at p; cases p
  | .adr _, v, u, h, r, p => by rw [pur_adr] at p; cases p
  | .tup xs, v, u, h, r, p => by
    rw [rt_tup] at h
    obtain ⟨a, vs, rfl, h1, h2⟩ := h
    cases r
    obtain ⟨its, rv, ⟨o, ho, hc, n, hd⟩, _⟩ := I.tuple h1.sqT
    rw [pur_tup] at p
    obtain ⟨as, ra⟩ := readss_T I xs h2 rv p
    exact ⟨as, by rw [dataT_tup]; exact .tuple ho hc hd (by simpa using ra)⟩
theorem readss_T (I : Inv X pins σ H s) : ∀ (xs : List T) {vs : List V} {us : List Value}, RTs (zx X) H xs vs → Vals vs us → T.purs xs = true → ∃ as, ReadsAll s.heap us (datasT xs) as
  | [], vs, us, h, r, _ => by rw [rts_nil] at h; subst h; cases r; exact ⟨_, by rw [datasT_nil]; exact .nil⟩
  | x :: xs, vs, us, h, r, p => by
    rw [rts_cons] at h
    obtain ⟨v, vs', rfl, h1, h2⟩ := h
    rw [purs_cons, Bool.and_eq_true] at p
    cases r with
    | cons r1 r2 =>
      obtain ⟨as, q1⟩ := reads_T I x h1 r1 p.1
      obtain ⟨bs, q2⟩ := readss_T I xs h2 r2 p.2
      exact ⟨_, by rw [datasT_cons]; exact .cons q1 q2⟩
end
end
def reprT (x : T) : Str := (dataT x).shown
def oRepr : OA := fun ts S Q => match ts with
  | [.tup xs] => T.purs xs = true ∧ (dataT (.tup xs)).showable = true ∧ (dataT (.tup xs)).depth ≤ 100 ∧ (reprT (.tup xs)).length ≤ sizeLine ∧ Q (.str (reprT (.tup xs))) S
  | _ => False
section
variable {X : Cx} {p pos : Pos} {e : Expr} {es : List Expr} {t : TTA}
theorem call_reprT (hgd : X.A.guards = some []) (hu : X.A.units + 200 < cLine) : CallR X (.builtin "repr") (rT (zx X) oRepr) := by
  intro pins s σ H xs us R I r ⟨ts, S, Q, rs, rr, q, m⟩
  unfold oRepr at q
  split at q
  · obtain ⟨v, rfl, h⟩ := rr.one'
    obtain ⟨p1, p2, p3, p4, q⟩ := q
    obtain ⟨u, rfl, ru⟩ := vals1 r
    obtain ⟨as, rd⟩ := reads_T I _ h ru (by rw [pur_tup]; exact p1)
    have h' := h
    rw [rt_tup] at h
    obtain ⟨a, vs, rfl, h1, h2⟩ := h
    cases ru
    refine PySem.repr_of_reads' rd p2 (fun z => by rw [data_noDict] at z; cases z) hgd (by omega) (fun b o e => e) (fun h' u tk hk => ?_) p4
    exact ⟨.str _, H, I.kept hk, ⟨u, rfl⟩, m _ _ (.here (.refl _) rs (by rw [rt_str]; rfl) q)⟩
  · exact q.elim
theorem q_repr (hgd : X.A.guards = some []) (hu : X.A.units + 200 < cLine) (hg : Gl X "repr") (hm : X.mg "repr" = none) (ha : QA X (e :: es) t) (he : starEach (e :: es) X.env = (false, eval e X.env) :: starEach es X.env := by rfl) (hpl : (backTo pos (starEach es X.env)).any (·.1) = false := by rfl) :
    QE X (.Call (.Name "repr" p) (e :: es) [] pos) (tbi oRepr t) := q_bi (call_reprT hgd hu) oa_T hg hm (by decide +kernel) ha (by decide) (by decide) he hpl
end
end TL
set_option Elab.async false
set_option linter.all false
set_option maxRecDepth 100000
set_option maxHeartbeats 1000000
/-! TL10: list(range(n)); functions that may not be called; frames of the store. -/
namespace TL
open PySem PySem.Spec PyProof.Rows L2
theorem RTs.rng {K : Zk} {H : Hp} : ∀ (n : Nat) (lo : Int), RTs K H (rngT lo n) ((List.range n).map fun i : Nat => V.int (lo + (i : Int)))
  | 0, lo => .nil
  | n + 1, lo => by
    rw [List.range_succ_eq_map, List.map_cons, List.map_map]
    refine .cons (by rw [rt_int]; simp) ?_
    have := RTs.rng (K := K) (H := H) n (lo + 1)
    have e : (fun i : Nat => V.int (lo + (i : Int))) ∘ Nat.succ = fun i : Nat => V.int (lo + 1 + (i : Int)) := by
      funext i
      show V.int (lo + ((i + 1 : Nat) : Int)) = _
      congr 1
      omega
    rw [e]
    exact this
section
variable {X : Cx} {e : Expr} {te : TTE} {p p2 pos pos2 : Pos}
theorem q_lstRng1 (hc : X.calm = true) (hg : Gl X "list") (hm : X.mg "list" = none) (hg2 : Gl X "range") (hm2 : X.mg "range" = none) (he : QE X e te)
    (hs : starEach [e] X.env = (false, eval e X.env) :: starEach [] X.env := by rfl)
    (hs2 : starEach [.Call (.Name "range" p2) [e] [] pos2] X.env = (false, eval (.Call (.Name "range" p2) [e] [] pos2) X.env) :: starEach [] X.env := by rfl) :
    QE X (.Call (.Name "list" p) [.Call (.Name "range" p2) [e] [] pos2] [] pos) (tlRng1 te) := by
  refine qe_of (pe_listRg hc hg hm (prg_1 hg2 hm2 he hs) hs2) fun σ H ρ S Q rs re q => LE.mk rs re q fun x S1 v H1 e1 rs1 rx q1 => ?_
  split at q1
  · rename_i n
    rw [rt_int] at rx
    obtain ⟨h0, h4, q1⟩ := q1
    refine ⟨n, rx, ⟨by omega, by omega, by omega, by omega, by rw [Int.sub_zero]; omega⟩, fun l hl => .lst e1 rs1 hl ?_ (q1.at (rs1.none_of hl))⟩
    have := RTs.rng (K := zx X) (H := H1) n.toNat 0
    have e2 : rgV 0 n = (List.range n.toNat).map fun i : Nat => V.int (0 + (i : Int)) := by
      unfold rgV
      simp
    rw [e2]
    exact this
  · exact q1.elim
theorem cal_none {P : Program} {w : World} {K : PySem.W.Frag} {mg : Str → Option Value} {base : Heap} {x : Str} {f : Addr} {fd : FuncData} {ps : List Str} {k : Nat} {sp : TSp} (hm : mg x = some (.ref f)) (kp : PySem.W.keepIn K (.ref f) = true) (hb : Binds K fd ps []) (no : ∀ ts S Q, ¬ sp ts S Q) : Cal P w K mg base k x ps.length sp :=
  ⟨f, fd, ps, rfl, hm, kp, hb, fun A outer s H args us vs Q _ _ _ _ _ _ ⟨ts, S, Q', _, _, q, _⟩ => (no ts S Q' q).elim⟩
end
/-- all that stood stands -/
def Ex (S S' : Sto) : Prop := ∀ a o, S a = some o → S' a = some o
theorem Ex.refl (S : Sto) : Ex S S := fun _ _ h => h
theorem Ex.trans {S S1 S2 : Sto} (a : Ex S S1) (b : Ex S1 S2) : Ex S S2 := fun c o h => b c o (a c o h)
theorem Ex.new {S : Sto} {p : Addr} {o : MO} (h : S p = none) : Ex S (S.set p o) := fun a m e => by
  rw [set_ne (fun z => by rw [z, h] at e; cases e)]; exact e
theorem Ex.none {S S' : Sto} (e : Ex S S') {p : Addr} (h : S' p = none) : S p = none := by
  cases q : S p with
  | none => rfl
  | some o => rw [e p o q] at h; cases h
end TL
set_option Elab.async false
set_option linter.all false
set_option maxRecDepth 100000
set_option maxHeartbeats 1000000
/-! TLs: steps: each operation over T, as a step of a verification condition. -/
namespace TL
open PySem PySem.Spec PyProof.Rows L2
theorem Upd.get {S S' : Sto} {a b : Addr} {o o' : MO} (u : Upd S a o S') (h : b ≠ a) (e : S b = some o') : S' b = some o' := (u.off b h).trans e
section
variable {S : Sto} {Q : T → Sto → Prop} {a b : Addr} {xs ys : List T} {v w : T} {i j : Int}
theorem nn {p q : Addr} {o : MO} (h : S p = none) (h2 : S q = some o) : q ≠ p := fun z => by rw [z, h] at h2; cases h2
theorem st_ixl (h : S a = some (.lst xs)) (e : atI xs i = some v) (q : Q v S) : oIx (.adr a) (.int i) S Q := by
  unfold oIx; simp only [lstAt_of h, e]; exact q
theorem st_ixt (e : atI xs i = some v) (q : Q v S) : oIx (.tup xs) (.int i) S Q := by
  unfold oIx; simp only [e]; exact q
theorem st_ixf (e : atI xs i = some v) (q : Q v S) : oIx (.fl xs) (.int i) S Q := by
  unfold oIx; simp only [e]; exact q
theorem st_ixs {z : Str} {c : Nat} (hz : z.length ≤ sizeLine) (e : atI z.cps.toList i = some c) (q : Q (.str ⟨#[c]⟩) S) : oIx (.str z) (.int i) S Q := by
  unfold oIx; simp only [e]; exact ⟨hz, q⟩
theorem lst_dk {kvs : List (Key × T)} (h : S a = some (.dk kvs)) : lstAt S a = none := by unfold lstAt; rw [h]
theorem lst_dx {kvs : List (List Key × T)} (h : S a = some (.dx kvs)) : lstAt S a = none := by unfold lstAt; rw [h]
theorem st_ixd {kvs : List (Key × T)} {y : T} {k : Key} (h : S a = some (.dk kvs)) (ek : keyT y = some k) (e : valT kvs k = some v) (q : Q v S) : oIx (.adr a) y S Q := by
  have hd : dget S a y = some (some v) := by unfold dget; rw [h]; simp only [ek, Option.map_some, e]
  unfold oIx
  simp only [lst_dk h, hd]; exact q
theorem st_ixx {kvs : List (List Key × T)} {zs : List T} {ks : List Key} (h : S a = some (.dx kvs)) (ek : keysT zs = some ks) (e : valT kvs ks = some v) (q : Q v S) : oIx (.adr a) (.tup zs) S Q := by
  have hd : dget S a (.tup zs) = some (some v) := by unfold dget; rw [h]; simp only [ek, Option.map_some, e]
  unfold oIx
  simp only [lst_dx h, hd]; exact q
theorem st_set {R : Sto → Prop} {n : Nat} (h : S a = some (.lst xs)) (e : ixN xs.length i = some n) (ey : xs.set n v = ys) (q : ∀ S', Upd S a (.lst ys) S' → R S') : oSet (.adr a) (.int i) v S R := by
  unfold oSet; simp only [h, e, ey]; exact q _ .of
theorem st_setd {R : Sto → Prop} {kvs : List (Key × T)} {y : T} {k : Key} (h : S a = some (.dk kvs)) (ek : keyT y = some k) (hz : kvs.length < sizeLine) (q : ∀ S', Upd S a (.dk (putT kvs k v)) S' → R S') : oSet (.adr a) y v S R := by
  unfold oSet; simp only [h, ek]; exact ⟨hz, q _ .of⟩
theorem st_add (q : Q (.int (i + j)) S) : oAdd (.int i) (.int j) S Q := q
theorem st_adds {x y : Str} (h : x.length + y.length ≤ sizeLine) (q : Q (.str (x ++ y)) S) : oAdd (.str x) (.str y) S Q := ⟨h, q⟩
theorem st_addt (h : xs.length + ys.length ≤ sizeLine) (q : Q (.tup (xs ++ ys)) S) : oAdd (.tup xs) (.tup ys) S Q := ⟨h, q⟩
theorem st_addl (h1 : S a = some (.lst xs)) (h2 : S b = some (.lst ys)) (h : xs.length + ys.length ≤ sizeLine) (q : NewO S (.lst (xs ++ ys)) Q) : oAdd (.adr a) (.adr b) S Q := ⟨xs, ys, h1, h2, h, q⟩
theorem st_sub (q : Q (.int (i - j)) S) : oSub (.int i) (.int j) S Q := q
theorem st_mul (h : CMul i j) (q : Q (.int (i * j)) S) : oMul (.int i) (.int j) S Q := ⟨h, q⟩
theorem st_mull (h : S a = some (.lst xs)) (h1 : -(2 ^ 63) ≤ j) (h2 : j < 2 ^ 63) (hz : xs.length * j.toNat ≤ sizeLine) (q : NewO S (.lst (List.replicate j.toNat xs).flatten) Q) : oMul (.adr a) (.int j) S Q := ⟨xs, h, h1, h2, hz, q⟩
theorem st_div (h : CDivW i j) (q : Q (.int (i / j)) S) : oDiv (.int i) (.int j) S Q := ⟨h, q⟩
theorem st_mod (h : 0 < j) (q : Q (.int (i % j)) S) : oMod (.int i) (.int j) S Q := ⟨h, q⟩
theorem st_pow (h : CPow i j) (q : Q (.int (i ^ j.toNat)) S) : oPow (.int i) (.int j) S Q := ⟨h, q⟩
theorem st_lt (q : Q (.bl (decide (i < j))) S) : oLt (.int i) (.int j) S Q := q
theorem st_le (q : Q (.bl (decide (i ≤ j))) S) : oLe (.int i) (.int j) S Q := q
theorem st_gt (q : Q (.bl (decide (j < i))) S) : oGt (.int i) (.int j) S Q := q
theorem st_ge (q : Q (.bl (decide (j ≤ i))) S) : oGe (.int i) (.int j) S Q := q
/-- == of two lists -/
theorem st_eql {neg : Bool} (h1 : S a = some (.lst xs)) (h2 : S b = some (.lst ys)) (p1 : T.purs xs = true) (p2 : T.purs ys = true) (hd : min (T.depths xs) (T.depths ys) ≤ 149) (q : Q (.bl (eqG neg (eqTs xs ys))) S) : oEqG neg (.adr a) (.adr b) S Q :=
  ⟨xs, ys, lstAt_of h1, lstAt_of h2, p1, p2, hd, q⟩
theorem st_eq {neg : Bool} {x y : T} (p1 : x.pur = true) (p2 : y.pur = true) (hd : min x.depth y.depth ≤ 150) (q : Q (.bl (eqG neg (eqT x y))) S) : oEqG neg x y S Q := by
  unfold oEqG
  split
  · rw [pur_adr] at p1; cases p1
  · exact ⟨p1, p2, hd, q⟩
theorem st_is {neg : Bool} {x : T} (q : Q (.bl (eqG neg (match x with | .non => true | _ => false))) S) : oIsG neg x .non S Q := q
theorem st_app (h : S a = some (.lst xs)) (hz : xs.length < sizeLine) (q : ∀ S', Upd S a (.lst (xs ++ [v])) S' → Q .non S') : oAppend (.adr a) v S Q := by
  unfold oAppend; simp only [h]; exact ⟨hz, q _ .of⟩
theorem st_pop {y : T} (h : S a = some (.lst xs)) (e : xs[xs.length - 1]? = some y) (q : ∀ S', Upd S a (.lst xs.dropLast) S' → Q y S') : oPop0 (.adr a) S Q := by
  unfold oPop0; simp only [h, e]; exact q _ .of
theorem st_popAt {k : Nat} {y : T} (h : S a = some (.lst xs)) (h1 : -(2 ^ 63) ≤ i) (h2 : i < 2 ^ 63) (e : seqIndex? i xs.length = some k) (ey : xs[k]? = some y) (q : ∀ S', Upd S a (.lst (xs.eraseIdx k)) S' → Q y S') : oPopAt (.adr a) (.int i) S Q := by
  unfold oPopAt; simp only [h, e, ey]; exact ⟨⟨h1, h2⟩, q _ .of⟩
theorem st_isl (h : S a = some (.lst xs)) : isLst S (.adr a) := by
  show (lstAt S a).isSome = true
  rw [lstAt_of h]; rfl
theorem st_lenl (h : S a = some (.lst xs)) (q : Q (.int xs.length) S) : oLen [.adr a] S Q := by
  unfold oLen; simp only [h]; exact q
theorem st_tupl (h : S a = some (.lst xs)) (q : Q (.tup xs) S) : oTup [.adr a] S Q := by
  unfold oTup; simp only [lstAt_of h]; exact q
theorem st_sum {ns : List Int} (h : S a = some (.lst (ns.map T.int))) (q : Q (.int ns.sum) S) : oSum [.adr a] S Q := by
  unfold oSum
  simp only [lstAt_of h, Option.bind_some, intsT_map]; exact q
theorem st_sll {lo hi : Option Int} (h : S a = some (.lst xs)) (q : NewO S (.lst (cutT xs lo hi)) Q) : oSl (.adr a) lo hi S Q := by
  unfold oSl; simp only [lstAt_of h]; exact q
theorem st_slf {lo hi : Option Int} (q : NewO S (.lst (cutT xs lo hi)) Q) : oSl (.fl xs) lo hi S Q := by
  unfold oSl; exact q
theorem st_slt {lo hi : Option Int} (q : Q (.tup (cutT xs lo hi)) S) : oSl (.tup xs) lo hi S Q := q
theorem z4000 {n : Nat} (h : n ≤ 4000) : n ≤ sizeLine := Nat.le_trans h (by decide)
theorem st_lst (hz : xs.length ≤ 4000) (q : NewO S (.lst xs) Q) : xs.length ≤ sizeLine ∧ NewO S (.lst xs) Q := ⟨z4000 hz, q⟩
theorem st_nil (q : NewO S (.lst []) Q) : ([] : List T).length ≤ sizeLine ∧ NewO S (.lst []) Q := ⟨Nat.zero_le _, q⟩
theorem nw {o : MO} (q : ∀ (p : Addr) (S' : Sto), S p = none → S' p = some o → Ex S S' → Q (.adr p) S') : NewO S o Q := fun p S' h u => q p S' h u.at_ fun a m e => u.get (nn h e) e
theorem seq_cut {t u : TTS} {D : EndsT} {ρ : Rho} {S : Sto} (h : ∀ v : TTS, v = u → tsSeq t v D ρ S) : tsSeq t u D ρ S := h u rfl
theorem for_cut {w : TTI} {g : TTG} {tb : TTS} {D : EndsT} {ρ : Rho} {S : Sto} (h : ∀ b : TTS, b = tb → tsFor w g b D ρ S) : tsFor w g tb D ρ S := h tb rfl
theorem ends_cut {t : TTS} {D : EndsT} {ρ : Rho} {S : Sto} (h : ∀ E : EndsT, E = D → t E ρ S) : t D ρ S := h D rfl
theorem ix3_0 {x y z : T} : atI [x, y, z] 0 = some x := rfl
theorem purs_ints : ∀ ns : List Int, T.purs (ns.map T.int) = true
  | [] => purs_nil
  | n :: ns => by rw [List.map_cons, purs_cons, pur_int, purs_ints ns]; rfl
theorem depths_ints : ∀ ns : List Int, T.depths (ns.map T.int) = 0
  | [] => depths_nil
  | n :: ns => by rw [List.map_cons, depths_cons, depth_int, depths_ints ns]; rfl
theorem purs_strs : ∀ ns : List Str, T.purs (ns.map T.str) = true
  | [] => purs_nil
  | n :: ns => by rw [List.map_cons, purs_cons, pur_str, purs_strs ns]; rfl
theorem depths_strs : ∀ ns : List Str, T.depths (ns.map T.str) = 0
  | [] => depths_nil
  | n :: ns => by rw [List.map_cons, depths_cons, depth_str, depths_strs ns]; rfl
theorem mul_l (h1 : -(2 ^ 64) < i) (h2 : i < 2 ^ 64) : CMul i j := .inl ⟨h1, h2⟩
theorem mul_r (h1 : -(2 ^ 64) < j) (h2 : j < 2 ^ 64) : CMul i j := .inr ⟨h1, h2⟩
theorem div_64 (h0 : 0 < j) (h : j < 2 ^ 64) : CDivW i j := wide_div (b := 64) h0 (by omega) (by decide) (by decide)
end
end TL
set_option Elab.async false
set_option linter.all false
set_option maxRecDepth 100000
set_option maxHeartbeats 1000000
/-! TLA: what the defs of k73 are asked and answer. -/
namespace LAW
open PySem PySem.Spec PyProof.Rows L2 TL

/-! the deck -/
structure Deck (S : Sto) (D C : Addr) : Prop where
  ne : D ≠ C
  ex : ∃ (cells : List Int) (mix cnt : Int), S D = some (.lst [.adr C, .int mix, .int cnt]) ∧ S C = some (.lst (cells.map T.int)) ∧ cells.length ≤ 100
/-- the deck has turned, all else stands -/
structure Fr (D C : Addr) (S S' : Sto) : Prop where
  dk : Deck S' D C
  kp : ∀ a o, a ≠ D → a ≠ C → S a = some o → S' a = some o
def spDraw : TSp := fun ts S Q => ∃ (D C : Addr) (m : Int), ts = [.adr D, .int m] ∧ Deck S D C ∧ 1 ≤ m ∧ m < 2 ^ 62 ∧ ∀ (v : Int) (S' : Sto), 0 ≤ v → v < m → Fr D C S S' → Q (.int v) S'
def spDeck : TSp := fun ts S Q => ∃ (ns : List Int) (b : Addr), ts = [.adr b] ∧ S b = some (.lst (ns.map T.int)) ∧ ∀ (D C : Addr) (S' : Sto), S D = none → S C = none → Deck S' D C → Ex S S' → Q (.adr D) S'
/-- the items of a thing that may be drawn from -/
def itemsOf (S : Sto) (x : T) : Option (List T) := (sqT? S x).map (·.2)
def spPick : TSp := fun ts S Q => ∃ (D C b : Addr) (xs : List T), ts = [.adr D, .adr b] ∧ Deck S D C ∧ b ≠ D ∧ b ≠ C ∧ S b = some (.lst xs) ∧ 1 ≤ xs.length ∧ xs.length ≤ 1000 ∧ ∀ (v : T) (S' : Sto), v ∈ xs → Fr D C S S' → Q v S'
def lower (x : Str) : Prop := 1 ≤ x.length ∧ x.length ≤ 8 ∧ ∀ c ∈ x.cps.toList, 97 ≤ c ∧ c ≤ 122
def spNames : TSp := fun ts S Q => ∃ (D C : Addr) (m : Int), ts = [.adr D, .int m] ∧ Deck S D C ∧ 1 ≤ m ∧ m ≤ 4 ∧ ∀ (p : Addr) (xs : List Str) (S' : Sto), xs.length = m.toNat → (∀ x ∈ xs, lower x) → Fr D C S S' → S p = none → S' p = some (.lst (xs.map T.str)) → Q (.adr p) S'

/-! kinds, worths -/
inductive Kd where | num | tru | opn (x : Str) | lst (k : Kd) | pair (a b : Kd) | eith (a b : Kd)
def Kd.t : Kd → T
  | .num => .tup [.str "num"] | .tru => .tup [.str "truth"] | .opn x => .tup [.str "open", .str x]
  | .lst k => .tup [.str "list", k.t] | .pair a b => .tup [.str "pair", a.t, b.t] | .eith a b => .tup [.str "either", a.t, b.t]
def Kd.h : Kd → Nat
  | .num => 0 | .tru => 0 | .opn _ => 0 | .lst k => k.h + 1 | .pair a b => max a.h b.h + 1 | .eith a b => max a.h b.h + 1
def Kd.ok (opens : List Str) : Kd → Prop
  | .num => True | .tru => True | .opn x => x ∈ opens | .lst k => k.ok opens | .pair a b => a.ok opens ∧ b.ok opens | .eith a b => a.ok opens ∧ b.ok opens
inductive W where | num (n : Int) | tru (b : Bool) | thing (x : Str) (k : Nat) | lst (ws : List W) | left (w : W) | right (w : W) | pair (a b : W)
mutual
def W.t : W → T
  | .num n => .int n | .tru b => .bl b | .thing x k => .tup [.str "thing", .str x, .int k]
  | .lst ws => .tup [.str "list", .tup (W.ts ws)] | .left w => .tup [.str "left", w.t] | .right w => .tup [.str "right", w.t] | .pair a b => .tup [.str "pair", a.t, b.t]
def W.ts : List W → List T
  | [] => [] | w :: ws => w.t :: W.ts ws
end
/-- w is a worth of the kind: names' sizes, lists' length -/
def Has (siz : Str → Nat) (m : Nat) : Kd → W → Prop
  | .num, .num n => 0 ≤ n ∧ n ≤ 10 ^ 9
  | .tru, .tru _ => True
  | .opn x, .thing y k => x = y ∧ k < siz x
  | .lst k, .lst ws => ws.length ≤ m ∧ ∀ w ∈ ws, Has siz m k w
  | .pair a b, .pair x y => Has siz m a x ∧ Has siz m b y
  | .eith a _, .left x => Has siz m a x
  | .eith _ b, .right y => Has siz m b y
  | _, _ => False
/-! maps -/
abbrev Rows := List (Str × List (Option Nat))
def toldT (x : Str) : Option Nat → T | none => .tup [.str "fault"] | some j => .tup [.str "thing", .str x, .int j]
def rowsT (x : Str) : Nat → List (Option Nat) → List T
  | _, [] => [] | k, o :: r => .tup [.tup [.str "thing", .str x, .int k], toldT x o] :: rowsT x (k + 1) r
def mapT (r : Str × List (Option Nat)) : T := .tup [.str r.1, .tup [.str "table", .tup (rowsT r.1 0 r.2)]]
def mapsT (rows : Rows) : T := .tup (rows.map mapT)
def siz (rows : Rows) (x : Str) : Nat := ((rows.find? fun r => decide (r.1 = x)).map (·.2.length)).getD 0
def tell (rows : Rows) (x : Str) (k : Nat) : Option Nat := (((rows.find? fun r => decide (r.1 = x)).bind fun r => r.2[k]?).join)
structure RowsOk (rows : Rows) : Prop where
  nd : (rows.map (·.1)).Nodup
  lo : ∀ r ∈ rows, lower r.1
  sz : ∀ r ∈ rows, 1 ≤ r.2.length ∧ r.2.length ≤ 12 ∧ ∀ o ∈ r.2, ∀ j, o = some j → j < 12
  few : rows.length ≤ 8
mutual
def mapW (f : Str → Nat → Option Nat) : W → Option W
  | .num n => some (.num n) | .tru b => some (.tru b) | .thing x k => (f x k).map (.thing x)
  | .lst ws => (mapWs f ws).map .lst | .left w => (mapW f w).map .left | .right w => (mapW f w).map .right
  | .pair a b => (mapW f a).bind fun x => (mapW f b).map fun y => .pair x y
def mapWs (f : Str → Nat → Option Nat) : List W → Option (List W)
  | [] => some [] | w :: ws => (mapW f w).bind fun x => (mapWs f ws).map fun xs => x :: xs
end
def resT : Option W → T | none => .tup [.str "fault"] | some w => .tup [.str "worth", w.t]
def optT : Option W → T | none => .non | some w => w.t
def allT : Option (List W) → T | none => .non | some ws => .tup (W.ts ws)
def spTable : TSp := fun ts S Q => ∃ (rows : Rows) (x : Str), ts = [mapsT rows, .str x] ∧ RowsOk rows ∧ 1 ≤ siz rows x ∧
  ∀ (p : Addr) (kvs : List (List Key × T)) (S' : Sto), Ex S S' → S' p = some (.dx kvs) → (∀ k, k < siz rows x → valT kvs [.inr "thing", .inr x, .inl (k : Int)] = some (toldT x (tell rows x k))) → Q (.adr p) S'
def spAll (n : Nat) : TSp := fun ts S Q => ∃ (rows : Rows) (kds : List Kd) (ws : List W) (kx : T), ts = [kx, mapsT rows, .tup (W.ts ws)] ∧ RowsOk rows ∧ (sqT? S kx).map (·.2) = some (kds.map Kd.t) ∧ kds.length = ws.length ∧ ws.length ≤ 12 ∧
  (∀ k ∈ kds, k.h < n) ∧ (∀ (i : Nat) (k : Kd) (w : W), kds[i]? = some k → ws[i]? = some w → Has (siz rows) 12 k w) ∧ ∀ S', Ex S S' → Q (allT (mapWs (tell rows) ws)) S'
def spMapped (n : Nat) : TSp := fun ts S Q => ∃ (rows : Rows) (kd : Kd) (wo : W), ts = [Kd.t kd, mapsT rows, W.t wo] ∧ RowsOk rows ∧ kd.h < n ∧ Has (siz rows) 12 kd wo ∧ ∀ S', Ex S S' → Q (resT (mapW (tell rows) wo)) S'
def spLmapped (n : Nat) : TSp := fun ts S Q => ∃ (rows : Rows) (kd : Kd) (wo : W), ts = [mapsT rows, W.t wo] ∧ RowsOk rows ∧ kd.h < n ∧ Has (siz rows) 12 kd wo ∧ ∀ S', Ex S S' → Q (optT (mapW (tell rows) wo)) S'
def spBare : TSp := fun ts S Q => ∃ o, ts = [optT o] ∧ Q (resT o) S
def spRight : TSp := fun ts S Q => ∃ (rows : Rows) (kd : Kd) (wo : W), ts = [Kd.t kd, mapsT rows, W.t wo] ∧ RowsOk rows ∧ kd.h < 5 ∧ Has (siz rows) 12 kd wo ∧ ∀ S', Ex S S' → Q (.bl true) S'
def spData (n : Nat) : TSp := fun ts S Q => ∃ (D C b : Addr) (opens : List Str) (d : Int) (sm : Bool), ts = [.adr D, .adr b, .int d, .bl sm] ∧ Deck S D C ∧ b ≠ D ∧ b ≠ C ∧ S b = some (.lst (opens.map T.str)) ∧ 1 ≤ opens.length ∧ opens.length ≤ 8 ∧ 0 ≤ d ∧ d < n ∧
  ∀ (kd : Kd) (S' : Sto), Kd.ok opens kd → (kd.h : Int) ≤ d → Fr D C S S' → Q (Kd.t kd) S'
/-- the sizes' dict -/
structure Sizes (S : Sto) (z : Addr) (sz : Str → Nat) (names : List Str) : Prop where
  ex : ∃ kvs, S z = some (.dk kvs) ∧ ∀ x ∈ names, valT kvs (.inr x) = some (.int (sz x)) ∧ 1 ≤ sz x ∧ sz x ≤ 12
def spWorth (n : Nat) : TSp := fun ts S Q => ∃ (D C z : Addr) (sz : Str → Nat) (names : List Str) (kd : Kd) (m : Int), ts = [.adr D, Kd.t kd, .adr z, .int m] ∧ Deck S D C ∧ z ≠ D ∧ z ≠ C ∧ Sizes S z sz names ∧ Kd.ok names kd ∧ kd.h < n ∧ 0 ≤ m ∧ m ≤ 12 ∧
  ∀ (wo : W) (S' : Sto), Has sz 12 kd wo → Fr D C S S' → Q (W.t wo) S'
def spMaps : TSp := fun ts S Q => ∃ (D C z : Addr) (sz : Str → Nat) (names : List Str) (kvs : List (Key × T)) (f : Int), ts = [.adr D, .adr z, .int f] ∧ Deck S D C ∧ z ≠ D ∧ z ≠ C ∧ S z = some (.dk kvs) ∧ kvs.map (·.1) = names.map Sum.inr ∧ names.Nodup ∧ names.length ≤ 8 ∧ (∀ x ∈ names, lower x) ∧ Sizes S z sz names ∧
  ∀ (rows : Rows) (S' : Sto), RowsOk rows → (∀ x ∈ names, siz rows x = sz x) → Fr D C S S' → Q (mapsT rows) S'
end LAW
set_option Elab.async false
set_option linter.all false
set_option maxRecDepth 100000
set_option maxHeartbeats 4000000
/-! printed by pr.py: readings and derivations of defs. -/
namespace LAW
open PySem PySem.Spec PyProof.Rows L2 TL
def top (i : Nat) : Stmt := PySem.Challenge.pw_kindalone_k73_worths_mapped.main.body.getD i (.Pass ⟨0, 0, 0, 0⟩)
theorem ru {A : Around} {k : Nat} (hr : Room k A) : A.units + 200 < cLine := by have := hr.un; omega
/-! table_for -/
abbrev st_table_for : Stmt := top 2
abbrev N_table_for : List Str := ["maps", "name", "one", "table"]
abbrev P_table_for : List Str := ["maps", "name"]
theorem nd_table_for : (N_table_for).Nodup := by decide +kernel
theorem sc_table_for : FnScope N_table_for P_table_for (defScope st_table_for) := ⟨rfl, rfl, rfl, nd_table_for, rfl, by decide +kernel, by decide +kernel⟩
def t_table_for : TTS := (tsSeq (tsFor (tiSeq (tv 0)) (tgTup 2 (tgsCons (tgN 2) (tgsCons (tgN 3) tgsNil))) (tsIf (tq (tb oEq (tv 2) (tv 1))) (tsRet (tbi oDict (tac (tb oIx (tv 3) (tc (.int 1))) tan))) tsNx)) (tsRet (fun _ S Q => NewO S (.dk []) Q)))
theorem b_table_for {P : Program} {w : World} {K : PySem.W.Frag} {mg : Str → Option Value} {base : Heap} {f : Addr} {cdv : Value} {A : Around} {outer : List Env} {s : Shared} {H : Hp} {E : XK} {k : Nat}
    (hr : Room k (A.deeper (envOfC "table_for" (defScope st_table_for) s.heap.objs.size f cdv))) (hgd : (A.deeper (envOfC "table_for" (defScope st_table_for) s.heap.objs.size f cdv)).guards = some []) (n_dict : mg "dict" = none) :
    QSs (cxOf CX0 P w K mg base N_table_for "table_for" (defScope st_table_for) f cdv A outer s H E).nox (defBody st_table_for) t_table_for :=
  (s_cons (s_for PassesOwn.never rfl (i_seq (qv 0)) (g_tup (n := 2) rfl (gs_cons (g_name (i := 2) nd_table_for rfl (by first | exact Or.inl rfl | exact Or.inr rfl)) (gs_cons (g_name (i := 3) nd_table_for rfl (by first | exact Or.inl rfl | exact Or.inr rfl)) gs_nil))) (s_one (s_if (t_eq (ru hr) (qv 2) (qv 1)) (s_one (s_ret (q_dict rfl (ru hr) rfl n_dict (qa_cons (q_ix (ru hr) (qv 3) qc_int) qa_nil)))) s_nil))) (s_one (s_ret q_dict0)))
/-! mapped_all -/
abbrev st_mapped_all : Stmt := top 3
abbrev N_mapped_all : List Str := ["kinds", "maps", "worths", "found", "kind", "worth", "told"]
abbrev P_mapped_all : List Str := ["kinds", "maps", "worths"]
theorem nd_mapped_all : (N_mapped_all).Nodup := by decide +kernel
theorem sc_mapped_all : FnScope N_mapped_all P_mapped_all (defScope st_mapped_all) := ⟨rfl, rfl, rfl, nd_mapped_all, rfl, by decide +kernel, by decide +kernel⟩
def t_mapped_all (n : Nat) : TTS := (tsSeq (tsAsg (tlst tan) (tgN 3)) (tsSeq (tsFor (tiZip (tac (tv 0) (tac (tv 2) tan))) (tgTup 2 (tgsCons (tgN 4) (tgsCons (tgN 5) tgsNil))) (tsSeq (tsAsg (tcall 3 (spMapped n) (tac (tv 4) (tac (tv 1) (tac (tv 5) tan)))) (tgN 6)) (tsSeq (tsIf (tq (tb oEq (tv 6) (tc (.tup [.str "fault"])))) (tsRet (tc .non)) tsNx) (tsDrop (tml oAppend (tv 3) (tb oIx (tv 6) (tc (.int 1)))))))) (tsRet (tbi oTup (tac (tv 3) tan)))))
theorem b_mapped_all {P : Program} {w : World} {K : PySem.W.Frag} {mg : Str → Option Value} {base : Heap} {f : Addr} {cdv : Value} {A : Around} {outer : List Env} {s : Shared} {H : Hp} {E : XK} {k : Nat} {n : Nat}
    (hr : Room k (A.deeper (envOfC "mapped_all" (defScope st_mapped_all) s.heap.objs.size f cdv))) (hgd : (A.deeper (envOfC "mapped_all" (defScope st_mapped_all) s.heap.objs.size f cdv)).guards = some []) (c_mapped : Cal P w K mg base k "mapped" 3 (spMapped n)) (n_tuple : mg "tuple" = none) (n_zip : mg "zip" = none) {u_FAULT : Value} (m_FAULT : mg "FAULT" = some u_FAULT) (G_FAULT : Glo ⟨P, w, K⟩ u_FAULT (.tup [.str "fault"])) :
    QSs (cxOf CX0 P w K mg base N_mapped_all "mapped_all" (defScope st_mapped_all) f cdv A outer s H E).nox (defBody st_mapped_all) (t_mapped_all n) :=
  (s_cons (s_set (i := 3) nd_mapped_all rfl (by first | exact Or.inl rfl | exact Or.inr rfl) (q_lst qa_nil)) (s_cons (s_for PassesOwn.never rfl (i_zip rfl n_zip (qa_cons (qv 0) (qa_cons (qv 2) qa_nil))) (g_tup (n := 2) rfl (gs_cons (g_name (i := 4) nd_mapped_all rfl (by first | exact Or.inl rfl | exact Or.inr rfl)) (gs_cons (g_name (i := 5) nd_mapped_all rfl (by first | exact Or.inl rfl | exact Or.inr rfl)) gs_nil))) (s_cons (s_set (i := 6) nd_mapped_all rfl (by first | exact Or.inl rfl | exact Or.inr rfl) (q_call c_mapped hr hgd rfl (qa_cons (qv 4) (qa_cons (qv 1) (qa_cons (qv 5) qa_nil))))) (s_cons (s_if (t_eq (ru hr) (qv 6) (qc_glo rfl m_FAULT G_FAULT)) (s_one (s_ret qc_non)) s_nil) (s_one (s_expr (q_append (qv 3) (q_ix (ru hr) (qv 6) qc_int))))))) (s_one (s_ret (q_tuple rfl n_tuple (qa_cons (qv 3) qa_nil))))))
/-! mapped -/
abbrev st_mapped : Stmt := top 4
abbrev N_mapped : List Str := ["kind", "maps", "worth", "side", "told", "items", "both"]
abbrev P_mapped : List Str := ["kind", "maps", "worth"]
theorem nd_mapped : (N_mapped).Nodup := by decide +kernel
theorem sc_mapped : FnScope N_mapped P_mapped (defScope st_mapped) := ⟨rfl, rfl, rfl, nd_mapped, rfl, by decide +kernel, by decide +kernel⟩
def t_mapped (n : Nat) : TTS := (tsSeq (tsIf (tq (tb (oInG false) (tb oIx (tv 0) (tc (.int 0))) (ttup (tac (tc (.str "num")) (tac (tc (.str "truth")) tan))))) (tsRet (ttup (tac (tc (.str "worth")) (tac (tv 2) tan)))) tsNx) (tsSeq (tsIf (tq (tb oEq (tb oIx (tv 0) (tc (.int 0))) (tc (.str "open")))) (tsSeq (tsAsg (tb oIx (tcall 2 spTable (tac (tv 1) (tac (tb oIx (tv 0) (tc (.int 1))) tan))) (tv 2)) (tgN 4)) (tsRet (tife (tq (tb oEq (tv 4) (tc (.tup [.str "fault"])))) (tc (.tup [.str "fault"])) (ttup (tac (tc (.str "worth")) (tac (tv 4) tan)))))) tsNx) (tsSeq (tsIf (tq (tb oEq (tb oIx (tv 0) (tc (.int 0))) (tc (.str "list")))) (tsSeq (tsAsg (tcall 3 (spAll n) (tac (tb oMul (tlst (tac (tb oIx (tv 0) (tc (.int 1))) tan)) (tbi oLen (tac (tb oIx (tv 2) (tc (.int 1))) tan))) (tac (tv 1) (tac (tb oIx (tv 2) (tc (.int 1))) tan)))) (tgN 5)) (tsRet (tife (tq (tb (oIsG false) (tv 5) (tc .non))) (tc (.tup [.str "fault"])) (ttup (tac (tc (.str "worth")) (tac (ttup (tac (tc (.str "list")) (tac (tv 5) tan))) tan)))))) tsNx) (tsSeq (tsIf (tq (tb oEq (tb oIx (tv 0) (tc (.int 0))) (tc (.str "pair")))) (tsSeq (tsAsg (tcall 3 (spAll n) (tac (tsl (tv 0) (tpt (tc (.int 1))) tno) (tac (tv 1) (tac (tsl (tv 2) (tpt (tc (.int 1))) tno) tan)))) (tgN 6)) (tsRet (tife (tq (tb (oIsG false) (tv 6) (tc .non))) (tc (.tup [.str "fault"])) (ttup (tac (tc (.str "worth")) (tac (tb oAdd (ttup (tac (tc (.str "pair")) tan)) (tv 6)) tan)))))) tsNx) (tsSeq (tsAsg (tcall 3 (spAll n) (tac (tlst (tac (tb oIx (tv 0) (tb oIx (tdisp [((tc (.str "left")), (tc (.int 1))), ((tc (.str "right")), (tc (.int 2)))]) (tb oIx (tv 2) (tc (.int 0))))) tan)) (tac (tv 1) (tac (tsl (tv 2) (tpt (tc (.int 1))) tno) tan)))) (tgN 3)) (tsRet (tife (tq (tb (oIsG false) (tv 3) (tc .non))) (tc (.tup [.str "fault"])) (ttup (tac (tc (.str "worth")) (tac (tb oAdd (ttup (tac (tb oIx (tv 2) (tc (.int 0))) tan)) (tv 3)) tan))))))))))
theorem b_mapped {P : Program} {w : World} {K : PySem.W.Frag} {mg : Str → Option Value} {base : Heap} {f : Addr} {cdv : Value} {A : Around} {outer : List Env} {s : Shared} {H : Hp} {E : XK} {k : Nat} {n : Nat}
    (hr : Room k (A.deeper (envOfC "mapped" (defScope st_mapped) s.heap.objs.size f cdv))) (hgd : (A.deeper (envOfC "mapped" (defScope st_mapped) s.heap.objs.size f cdv)).guards = some []) (c_mapped_all : Cal P w K mg base k "mapped_all" 3 (spAll n)) (c_table_for : Cal P w K mg base k "table_for" 2 spTable) (n_len : mg "len" = none) {u_FAULT : Value} (m_FAULT : mg "FAULT" = some u_FAULT) (G_FAULT : Glo ⟨P, w, K⟩ u_FAULT (.tup [.str "fault"])) :
    QSs (cxOf CX0 P w K mg base N_mapped "mapped" (defScope st_mapped) f cdv A outer s H E).nox (defBody st_mapped) (t_mapped n) :=
  (s_cons (s_if (t_in (ru hr) (q_ix (ru hr) (qv 0) qc_int) (q_tup (qa_cons qc_str (qa_cons qc_str qa_nil)))) (s_one (s_ret (q_tup (qa_cons qc_str (qa_cons (qv 2) qa_nil))))) s_nil) (s_cons (s_if (t_eq (ru hr) (q_ix (ru hr) (qv 0) qc_int) qc_str) (s_cons (s_set (i := 4) nd_mapped rfl (by first | exact Or.inl rfl | exact Or.inr rfl) (q_ix (ru hr) (q_call c_table_for hr hgd rfl (qa_cons (qv 1) (qa_cons (q_ix (ru hr) (qv 0) qc_int) qa_nil))) (qv 2))) (s_one (s_ret (q_ife (t_eq (ru hr) (qv 4) (qc_glo rfl m_FAULT G_FAULT)) (qc_glo rfl m_FAULT G_FAULT) (q_tup (qa_cons qc_str (qa_cons (qv 4) qa_nil))))))) s_nil) (s_cons (s_if (t_eq (ru hr) (q_ix (ru hr) (qv 0) qc_int) qc_str) (s_cons (s_set (i := 5) nd_mapped rfl (by first | exact Or.inl rfl | exact Or.inr rfl) (q_call c_mapped_all hr hgd rfl (qa_cons (q_mul (q_lst (qa_cons (q_ix (ru hr) (qv 0) qc_int) qa_nil)) (q_len rfl n_len (qa_cons (q_ix (ru hr) (qv 2) qc_int) qa_nil))) (qa_cons (qv 1) (qa_cons (q_ix (ru hr) (qv 2) qc_int) qa_nil))))) (s_one (s_ret (q_ife (t_is (qv 5) qc_non) (qc_glo rfl m_FAULT G_FAULT) (q_tup (qa_cons qc_str (qa_cons (q_tup (qa_cons qc_str (qa_cons (qv 5) qa_nil))) qa_nil))))))) s_nil) (s_cons (s_if (t_eq (ru hr) (q_ix (ru hr) (qv 0) qc_int) qc_str) (s_cons (s_set (i := 6) nd_mapped rfl (by first | exact Or.inl rfl | exact Or.inr rfl) (q_call c_mapped_all hr hgd rfl (qa_cons (q_sl (qv 0) (qo_some qc_int) qo_none) (qa_cons (qv 1) (qa_cons (q_sl (qv 2) (qo_some qc_int) qo_none) qa_nil))))) (s_one (s_ret (q_ife (t_is (qv 6) qc_non) (qc_glo rfl m_FAULT G_FAULT) (q_tup (qa_cons qc_str (qa_cons (q_add (q_tup (qa_cons qc_str qa_nil)) (qv 6)) qa_nil))))))) s_nil) (s_cons (s_set (i := 3) nd_mapped rfl (by first | exact Or.inl rfl | exact Or.inr rfl) (q_call c_mapped_all hr hgd rfl (qa_cons (q_lst (qa_cons (q_ix (ru hr) (qv 0) (q_ix (ru hr) (q_disp (qps_cons qc_str qc_int (qps_cons qc_str qc_int qps_nil))) (q_ix (ru hr) (qv 2) qc_int))) qa_nil)) (qa_cons (qv 1) (qa_cons (q_sl (qv 2) (qo_some qc_int) qo_none) qa_nil))))) (s_one (s_ret (q_ife (t_is (qv 3) qc_non) (qc_glo rfl m_FAULT G_FAULT) (q_tup (qa_cons qc_str (qa_cons (q_add (q_tup (qa_cons (q_ix (ru hr) (qv 2) qc_int) qa_nil)) (qv 3)) qa_nil)))))))))))
/-! _law_deck -/
abbrev st_Ldeck : Stmt := top 6
abbrev N_Ldeck : List Str := ["_law_script", "_law_cells"]
abbrev P_Ldeck : List Str := ["_law_script"]
theorem nd_Ldeck : (N_Ldeck).Nodup := by decide +kernel
theorem sc_Ldeck : FnScope N_Ldeck P_Ldeck (defScope st_Ldeck) := ⟨rfl, rfl, rfl, nd_Ldeck, rfl, by decide +kernel, by decide +kernel⟩
def t_Ldeck : TTS := (tsSeq (tsAsg (tlRev (tsl (tv 0) tno (tpt (tc (.int 63))))) (tgN 1)) (tsRet (tlst (tac (tv 1) (tac (tb oAdd (tb oMod (tbi oSum (tac (tv 1) tan)) (tc (.int 2147483629))) (tb oMul (tc (.int 48271)) (tbi oLen (tac (tv 1) tan)))) (tac (tc (.int 0)) tan))))))
theorem b_Ldeck {P : Program} {w : World} {K : PySem.W.Frag} {mg : Str → Option Value} {base : Heap} {f : Addr} {cdv : Value} {A : Around} {outer : List Env} {s : Shared} {H : Hp} {E : XK} {k : Nat}
    (hr : Room k (A.deeper (envOfC "_law_deck" (defScope st_Ldeck) s.heap.objs.size f cdv))) (hgd : (A.deeper (envOfC "_law_deck" (defScope st_Ldeck) s.heap.objs.size f cdv)).guards = some []) (n_len : mg "len" = none) (n_list : mg "list" = none) (n_reversed : mg "reversed" = none) (n_sum : mg "sum" = none) :
    QSs (cxOf CX0 P w K mg base N_Ldeck "_law_deck" (defScope st_Ldeck) f cdv A outer s H E).nox (defBody st_Ldeck) t_Ldeck :=
  (s_cons (s_set (i := 1) nd_Ldeck rfl (by first | exact Or.inl rfl | exact Or.inr rfl) (q_lstRev rfl rfl n_list rfl n_reversed (q_sl (qv 0) qo_none (qo_some qc_int)))) (s_one (s_ret (q_lst (qa_cons (qv 1) (qa_cons (q_add (q_mod (q_sum rfl rfl n_sum (qa_cons (qv 1) qa_nil)) qc_int) (q_mul qc_int (q_len rfl n_len (qa_cons (qv 1) qa_nil)))) (qa_cons qc_int qa_nil)))))))
/-! _law_draw -/
abbrev st_Ldraw : Stmt := top 7
abbrev N_Ldraw : List Str := ["_law_deck_here", "_law_most", "_law_cell", "_law_number"]
abbrev P_Ldraw : List Str := ["_law_deck_here", "_law_most"]
theorem nd_Ldraw : (N_Ldraw).Nodup := by decide +kernel
theorem sc_Ldraw : FnScope N_Ldraw P_Ldraw (defScope st_Ldraw) := ⟨rfl, rfl, rfl, nd_Ldraw, rfl, by decide +kernel, by decide +kernel⟩
def t_Ldraw : TTS := (tsSeq (tsAsg (tb oAdd (tb oIx (tv 0) (tc (.int 2))) (tc (.int 1))) (tgSub (tv 0) (tc (.int 2)))) (tsSeq (tsAsg (tife (tq (tb oEq (tb oIx (tv 0) (tc (.int 0))) (tlst tan))) (tb oIx (tv 0) (tc (.int 1))) (tml0 oPop0 (tb oIx (tv 0) (tc (.int 0))))) (tgN 2)) (tsSeq (tsIf (tq (tb oGe (tv 2) (tb oPow (tc (.int 10)) (tc (.int 18))))) (tsSeq (tsDrop (tml oAppend (tb oIx (tv 0) (tc (.int 0))) (tb oDiv (tv 2) (tv 1)))) (tsRet (tb oMod (tv 2) (tv 1)))) tsNx) (tsSeq (tsAsg (tb oMod (tb oMul (tb oAdd (tb oAdd (tb oMod (tv 2) (tc (.int 2147483629))) (tb oMul (tc (.int 104729)) (tb oIx (tv 0) (tc (.int 2))))) (tc (.int 1))) (tc (.int 48271))) (tc (.int 2147483647))) (tgN 3)) (tsSeq (tsAsg (tb oMod (tb oAdd (tb oAdd (tb oMul (tv 3) (tv 3)) (tb oMul (tc (.int 69621)) (tb oIx (tv 0) (tc (.int 2))))) (tc (.int 7))) (tc (.int 2147483587))) (tgN 3)) (tsRet (tb oMod (tb oDiv (tb oMod (tb oMul (tv 3) (tb oAdd (tb oDiv (tv 3) (tc (.int 3))) (tc (.int 39373)))) (tc (.int 2305843009213693951))) (tc (.int 128))) (tv 1))))))))
theorem b_Ldraw {P : Program} {w : World} {K : PySem.W.Frag} {mg : Str → Option Value} {base : Heap} {f : Addr} {cdv : Value} {A : Around} {outer : List Env} {s : Shared} {H : Hp} {E : XK} {k : Nat}
    (hr : Room k (A.deeper (envOfC "_law_draw" (defScope st_Ldraw) s.heap.objs.size f cdv))) (hgd : (A.deeper (envOfC "_law_draw" (defScope st_Ldraw) s.heap.objs.size f cdv)).guards = some []) :
    QSs (cxOf CX0 P w K mg base N_Ldraw "_law_draw" (defScope st_Ldraw) f cdv A outer s H E).nox (defBody st_Ldraw) t_Ldraw :=
  (s_cons (s_asg (q_add (q_ix (ru hr) (qv 0) qc_int) qc_int) (g_sub (ru hr) (qv 0) qc_int)) (s_cons (s_set (i := 2) nd_Ldraw rfl (by first | exact Or.inl rfl | exact Or.inr rfl) (q_ife (t_eq (ru hr) (q_ix (ru hr) (qv 0) qc_int) (q_lst qa_nil)) (q_ix (ru hr) (qv 0) qc_int) (q_pop0 (q_ix (ru hr) (qv 0) qc_int)))) (s_cons (s_if (t_ge (qv 2) (q_pow qc_int qc_int)) (s_cons (s_expr (q_append (q_ix (ru hr) (qv 0) qc_int) (q_div (qv 2) (qv 1)))) (s_one (s_ret (q_mod (qv 2) (qv 1))))) s_nil) (s_cons (s_set (i := 3) nd_Ldraw rfl (by first | exact Or.inl rfl | exact Or.inr rfl) (q_mod (q_mul (q_add (q_add (q_mod (qv 2) qc_int) (q_mul qc_int (q_ix (ru hr) (qv 0) qc_int))) qc_int) qc_int) qc_int)) (s_cons (s_set (i := 3) nd_Ldraw rfl (by first | exact Or.inl rfl | exact Or.inr rfl) (q_mod (q_add (q_add (q_mul (qv 3) (qv 3)) (q_mul qc_int (q_ix (ru hr) (qv 0) qc_int))) qc_int) qc_int)) (s_one (s_ret (q_mod (q_div (q_mod (q_mul (qv 3) (q_add (q_div (qv 3) qc_int) qc_int)) qc_int) qc_int) (qv 1)))))))))
/-! _law_pick -/
abbrev st_Lpick : Stmt := top 8
abbrev N_Lpick : List Str := ["_law_deck_here", "_law_some"]
abbrev P_Lpick : List Str := ["_law_deck_here", "_law_some"]
theorem nd_Lpick : (N_Lpick).Nodup := by decide +kernel
theorem sc_Lpick : FnScope N_Lpick P_Lpick (defScope st_Lpick) := ⟨rfl, rfl, rfl, nd_Lpick, rfl, by decide +kernel, by decide +kernel⟩
def t_Lpick : TTS := (tsRet (tb oIx (tv 1) (tcall 2 spDraw (tac (tv 0) (tac (tbi oLen (tac (tv 1) tan)) tan)))))
theorem b_Lpick {P : Program} {w : World} {K : PySem.W.Frag} {mg : Str → Option Value} {base : Heap} {f : Addr} {cdv : Value} {A : Around} {outer : List Env} {s : Shared} {H : Hp} {E : XK} {k : Nat}
    (hr : Room k (A.deeper (envOfC "_law_pick" (defScope st_Lpick) s.heap.objs.size f cdv))) (hgd : (A.deeper (envOfC "_law_pick" (defScope st_Lpick) s.heap.objs.size f cdv)).guards = some []) (c_Ldraw : Cal P w K mg base k "_law_draw" 2 spDraw) (n_len : mg "len" = none) :
    QSs (cxOf CX0 P w K mg base N_Lpick "_law_pick" (defScope st_Lpick) f cdv A outer s H E).nox (defBody st_Lpick) t_Lpick :=
  (s_one (s_ret (q_ix (ru hr) (qv 1) (q_call c_Ldraw hr hgd rfl (qa_cons (qv 0) (qa_cons (q_len rfl n_len (qa_cons (qv 1) qa_nil)) qa_nil))))))
/-! _law_names -/
abbrev st_Lnames : Stmt := top 9
abbrev N_Lnames : List Str := ["_law_deck_here", "_law_many", "_law_letters", "_law_word", "_law_at", "_law_found", "_law_k", "_law_sign"]
abbrev P_Lnames : List Str := ["_law_deck_here", "_law_many"]
theorem nd_Lnames : (N_Lnames).Nodup := by decide +kernel
theorem sc_Lnames : FnScope N_Lnames P_Lnames (defScope st_Lnames) := ⟨rfl, rfl, rfl, nd_Lnames, rfl, by decide +kernel, by decide +kernel⟩
def t_Lnames : TTS := (tsSeq (tsAsg (tc (.str "abcdefghijklmnopqrstuvwxyz")) (tgN 2)) (tsSeq (tsAsg (tlc (tiRng1 (tac (tb oAdd (tc (.int 1)) (tcall 2 spDraw (tac (tv 0) (tac (tc (.int 8)) tan)))) tan)) (bt1 6) ttYes (tcall 2 spDraw (tac (tv 0) (tac (tc (.int 26)) tan))) [6]) (tgN 3)) (tsSeq (tsAsg (tcall 2 spDraw (tac (tv 0) (tac (tbi oLen (tac (tv 3) tan)) tan))) (tgN 4)) (tsSeq (tsAsg (tlst tan) (tgN 5)) (tsSeq (tsFor (tiRng1 (tac (tv 1) tan)) (tgN 6) (tsSeq (tsAsg (tb oMod (tb oAdd (tb oIx (tv 3) (tv 4)) (tc (.int 1))) (tc (.int 26))) (tgSub (tv 3) (tv 4))) (tsDrop (tml oAppend (tv 5) (tmj oJoin (tc (.str "")) (tlc (tiSeq (tv 3)) (bt1 7) ttYes (tb oIx (tv 2) (tv 7)) [7])))))) (tsRet (tv 5)))))))
theorem b_Lnames {P : Program} {w : World} {K : PySem.W.Frag} {mg : Str → Option Value} {base : Heap} {f : Addr} {cdv : Value} {A : Around} {outer : List Env} {s : Shared} {H : Hp} {E : XK} {k : Nat}
    (hr : Room k (A.deeper (envOfC "_law_names" (defScope st_Lnames) s.heap.objs.size f cdv))) (hgd : (A.deeper (envOfC "_law_names" (defScope st_Lnames) s.heap.objs.size f cdv)).guards = some []) (c_Ldraw : Cal P w K mg base k "_law_draw" 2 spDraw) (n_len : mg "len" = none) (n_range : mg "range" = none) :
    QSs (cxOf CX0 P w K mg base N_Lnames "_law_names" (defScope st_Lnames) f cdv A outer s H E).nox (defBody st_Lnames) t_Lnames :=
  (s_cons (s_set (i := 2) nd_Lnames rfl (by first | exact Or.inl rfl | exact Or.inr rfl) qc_str) (s_cons (s_setLc (own := [("_law_k", 6)]) (i := 3) rfl nd_Lnames rfl rfl (sw_true rfl rfl rfl (by decide +kernel)) (i_range1 rfl n_range (qa_cons (q_add qc_int (q_call c_Ldraw hr hgd rfl (qa_cons (qv 0) (qa_cons qc_int qa_nil)))) qa_nil)) (blkOk_by (own := [("_law_k", 6)]) (N := N_Lnames) (sc := defScope st_Lnames) (by decide +kernel)) (tbind1 (i := 6)) (fun _ _ _ _ _ => pg_name (i := 6) nd_Lnames rfl (by first | exact Or.inl rfl | exact Or.inr rfl)) (fun _ _ _ _ _ => ts_nil) (fun _ _ _ _ _ => (q_call c_Ldraw hr hgd rfl (qa_cons (qv 0) (qa_cons qc_int qa_nil))))) (s_cons (s_set (i := 4) nd_Lnames rfl (by first | exact Or.inl rfl | exact Or.inr rfl) (q_call c_Ldraw hr hgd rfl (qa_cons (qv 0) (qa_cons (q_len rfl n_len (qa_cons (qv 3) qa_nil)) qa_nil)))) (s_cons (s_set (i := 5) nd_Lnames rfl (by first | exact Or.inl rfl | exact Or.inr rfl) (q_lst qa_nil)) (s_cons (s_for PassesOwn.never rfl (i_range1 rfl n_range (qa_cons (qv 1) qa_nil)) (g_name (i := 6) nd_Lnames rfl (by first | exact Or.inl rfl | exact Or.inr rfl)) (s_cons (s_asg (q_mod (q_add (q_ix (ru hr) (qv 3) (qv 4)) qc_int) qc_int) (g_sub (ru hr) (qv 3) (qv 4))) (s_one (s_expr (q_append (qv 5) (q_join qc_str (q_lc (own := [("_law_sign", 7)]) rfl nd_Lnames (i_seq (qv 3)) (blkOk_by (own := [("_law_sign", 7)]) (N := N_Lnames) (sc := defScope st_Lnames) (by decide +kernel)) (tbind1 (i := 7)) (fun _ _ _ _ _ => pg_name (i := 7) nd_Lnames rfl (by first | exact Or.inl rfl | exact Or.inr rfl)) (fun _ _ _ _ _ => ts_nil) (fun _ _ _ _ _ => (q_ix (ru hr) (qv 2) (qv 7)))))))))) (s_one (s_ret (qv 5))))))))
/-! _law_data -/
abbrev st_Ldata : Stmt := top 10
abbrev N_Ldata : List Str := ["_law_deck_here", "_law_opens", "_law_deep", "_law_small", "_law_way", "_law_first"]
abbrev P_Ldata : List Str := ["_law_deck_here", "_law_opens", "_law_deep", "_law_small"]
theorem nd_Ldata : (N_Ldata).Nodup := by decide +kernel
theorem sc_Ldata : FnScope N_Ldata P_Ldata (defScope st_Ldata) := ⟨rfl, rfl, rfl, nd_Ldata, rfl, by decide +kernel, by decide +kernel⟩
def t_Ldata (n : Nat) : TTS := (tsSeq (tsAsg (tcall 2 spDraw (tac (tv 0) (tac (tb oIx (tlst (tac (tc (.int 10)) (tac (tc (.int 8)) tan))) (tbi oInt (tac (tv 3) tan))) tan))) (tgN 4)) (tsSeq (tsIf (tand (tq (tb oLt (tv 4) (tc (.int 4)))) (tq (tb oNe (tv 1) (tlst tan)))) (tsRet (ttup (tac (tc (.str "open")) (tac (tcall 2 spPick (tac (tv 0) (tac (tv 1) tan))) tan)))) tsNx) (tsSeq (tsIf (tor (tq (tb oEq (tv 2) (tc (.int 0)))) (tq (tb oLt (tv 4) (tc (.int 6))))) (tsRet (tcall 2 spPick (tac (tv 0) (tac (tlst (tac (ttup (tac (tc (.str "truth")) tan)) (tac (tb oIx (tlst (tac (ttup (tac (tc (.str "num")) tan)) (tac (ttup (tac (tc (.str "truth")) tan)) tan))) (tbi oInt (tac (tv 3) tan))) tan))) tan)))) tsNx) (tsSeq (tsIf (tq (tb oGt (tv 4) (tc (.int 7)))) (tsRet (ttup (tac (tc (.str "list")) (tac (tcall 4 (spData n) (tac (tv 0) (tac (tv 1) (tac (tb oSub (tv 2) (tc (.int 1))) (tac (tv 3) tan))))) tan)))) tsNx) (tsSeq (tsAsg (tcall 4 (spData n) (tac (tv 0) (tac (tv 1) (tac (tb oSub (tv 2) (tc (.int 1))) (tac (tv 3) tan))))) (tgN 5)) (tsRet (ttup (tac (tb oIx (tlst (tac (tc (.str "pair")) (tac (tc (.str "either")) tan))) (tb oSub (tv 4) (tc (.int 6)))) (tac (tv 5) (tac (tcall 4 (spData n) (tac (tv 0) (tac (tv 1) (tac (tb oSub (tv 2) (tc (.int 1))) (tac (tv 3) tan))))) tan))))))))))
theorem b_Ldata {P : Program} {w : World} {K : PySem.W.Frag} {mg : Str → Option Value} {base : Heap} {f : Addr} {cdv : Value} {A : Around} {outer : List Env} {s : Shared} {H : Hp} {E : XK} {k : Nat} {n : Nat}
    (hr : Room k (A.deeper (envOfC "_law_data" (defScope st_Ldata) s.heap.objs.size f cdv))) (hgd : (A.deeper (envOfC "_law_data" (defScope st_Ldata) s.heap.objs.size f cdv)).guards = some []) (c_Ldata : Cal P w K mg base k "_law_data" 4 (spData n)) (c_Lpick : Cal P w K mg base k "_law_pick" 2 spPick) (c_Ldraw : Cal P w K mg base k "_law_draw" 2 spDraw) (n_int : mg "int" = none) :
    QSs (cxOf CX0 P w K mg base N_Ldata "_law_data" (defScope st_Ldata) f cdv A outer s H E).nox (defBody st_Ldata) (t_Ldata n) :=
  (s_cons (s_set (i := 4) nd_Ldata rfl (by first | exact Or.inl rfl | exact Or.inr rfl) (q_call c_Ldraw hr hgd rfl (qa_cons (qv 0) (qa_cons (q_ix (ru hr) (q_lst (qa_cons qc_int (qa_cons qc_int qa_nil))) (q_int rfl n_int (qa_cons (qv 3) qa_nil))) qa_nil)))) (s_cons (s_if (t_w (w_and (t_lt (qv 4) qc_int) (w_and1 (t_ne (ru hr) (qv 1) (q_lst qa_nil))))) (s_one (s_ret (q_tup (qa_cons qc_str (qa_cons (q_call c_Lpick hr hgd rfl (qa_cons (qv 0) (qa_cons (qv 1) qa_nil))) qa_nil))))) s_nil) (s_cons (s_if (t_w (w_or (t_eq (ru hr) (qv 2) qc_int) (w_or1 (t_lt (qv 4) qc_int)))) (s_one (s_ret (q_call c_Lpick hr hgd rfl (qa_cons (qv 0) (qa_cons (q_lst (qa_cons (q_tup (qa_cons qc_str qa_nil)) (qa_cons (q_ix (ru hr) (q_lst (qa_cons (q_tup (qa_cons qc_str qa_nil)) (qa_cons (q_tup (qa_cons qc_str qa_nil)) qa_nil))) (q_int rfl n_int (qa_cons (qv 3) qa_nil))) qa_nil))) qa_nil))))) s_nil) (s_cons (s_if (t_gt (qv 4) qc_int) (s_one (s_ret (q_tup (qa_cons qc_str (qa_cons (q_call c_Ldata hr hgd rfl (qa_cons (qv 0) (qa_cons (qv 1) (qa_cons (q_sub (qv 2) qc_int) (qa_cons (qv 3) qa_nil))))) qa_nil))))) s_nil) (s_cons (s_set (i := 5) nd_Ldata rfl (by first | exact Or.inl rfl | exact Or.inr rfl) (q_call c_Ldata hr hgd rfl (qa_cons (qv 0) (qa_cons (qv 1) (qa_cons (q_sub (qv 2) qc_int) (qa_cons (qv 3) qa_nil)))))) (s_one (s_ret (q_tup (qa_cons (q_ix (ru hr) (q_lst (qa_cons qc_str (qa_cons qc_str qa_nil))) (q_sub (qv 4) qc_int)) (qa_cons (qv 5) (qa_cons (q_call c_Ldata hr hgd rfl (qa_cons (qv 0) (qa_cons (qv 1) (qa_cons (q_sub (qv 2) qc_int) (qa_cons (qv 3) qa_nil))))) qa_nil)))))))))))
/-! _law_worth -/
abbrev st_Lworth : Stmt := top 11
abbrev N_Lworth : List Str := ["_law_deck_here", "_law_kind", "_law_sizes", "_law_most", "_law_first", "_law_many", "_law_some", "_law_at", "_law_k"]
abbrev P_Lworth : List Str := ["_law_deck_here", "_law_kind", "_law_sizes", "_law_most"]
theorem nd_Lworth : (N_Lworth).Nodup := by decide +kernel
theorem sc_Lworth : FnScope N_Lworth P_Lworth (defScope st_Lworth) := ⟨rfl, rfl, rfl, nd_Lworth, rfl, by decide +kernel, by decide +kernel⟩
def t_Lworth (n : Nat) : TTS := (tsSeq (tsIf (tq (tb oEq (tb oIx (tv 1) (tc (.int 0))) (tc (.str "open")))) (tsRet (ttup (tac (tc (.str "thing")) (tac (tb oIx (tv 1) (tc (.int 1))) (tac (tcall 2 spDraw (tac (tv 0) (tac (tb oIx (tv 2) (tb oIx (tv 1) (tc (.int 1)))) tan))) tan))))) tsNx) (tsSeq (tsIf (tq (tb oEq (tb oIx (tv 1) (tc (.int 0))) (tc (.str "num")))) (tsRet (tcall 2 spPick (tac (tv 0) (tac (tlst (tac (tc (.int 0)) (tac (tc (.int 1)) (tac (tc (.int 2)) (tac (tc (.int 3)) (tac (tcall 2 spDraw (tac (tv 0) (tac (tb oAdd (tb oPow (tc (.int 10)) (tc (.int 9))) (tc (.int 1))) tan))) tan)))))) tan)))) tsNx) (tsSeq (tsIf (tq (tb oEq (tb oIx (tv 1) (tc (.int 0))) (tc (.str "truth")))) (tsRet (tb oEq (tcall 2 spDraw (tac (tv 0) (tac (tc (.int 2)) tan))) (tc (.int 1)))) tsNx) (tsSeq (tsIf (tq (tb oEq (tb oIx (tv 1) (tc (.int 0))) (tc (.str "list")))) (tsSeq (tsAsg (tcall 2 spDraw (tac (tv 0) (tac (tb oAdd (tv 3) (tc (.int 1))) tan))) (tgN 5)) (tsSeq (tsAsg (tlc (tiRng1 (tac (tv 5) tan)) (bt1 8) ttYes (tcall 4 (spWorth n) (tac (tv 0) (tac (tb oIx (tv 1) (tc (.int 1))) (tac (tv 2) (tac (tv 3) tan))))) [8]) (tgN 6)) (tsRet (ttup (tac (tc (.str "list")) (tac (tbi oTup (tac (tv 6) tan)) tan)))))) tsNx) (tsSeq (tsIf (tq (tb oEq (tb oIx (tv 1) (tc (.int 0))) (tc (.str "either")))) (tsSeq (tsAsg (tcall 2 spDraw (tac (tv 0) (tac (tc (.int 2)) tan))) (tgN 7)) (tsRet (ttup (tac (tb oIx (tlst (tac (tc (.str "left")) (tac (tc (.str "right")) tan))) (tv 7)) (tac (tcall 4 (spWorth n) (tac (tv 0) (tac (tb oIx (tv 1) (tb oAdd (tc (.int 1)) (tv 7))) (tac (tv 2) (tac (tv 3) tan))))) tan))))) tsNx) (tsSeq (tsAsg (tcall 4 (spWorth n) (tac (tv 0) (tac (tb oIx (tv 1) (tc (.int 1))) (tac (tv 2) (tac (tv 3) tan))))) (tgN 4)) (tsRet (ttup (tac (tc (.str "pair")) (tac (tv 4) (tac (tcall 4 (spWorth n) (tac (tv 0) (tac (tb oIx (tv 1) (tc (.int 2))) (tac (tv 2) (tac (tv 3) tan))))) tan)))))))))))
theorem b_Lworth {P : Program} {w : World} {K : PySem.W.Frag} {mg : Str → Option Value} {base : Heap} {f : Addr} {cdv : Value} {A : Around} {outer : List Env} {s : Shared} {H : Hp} {E : XK} {k : Nat} {n : Nat}
    (hr : Room k (A.deeper (envOfC "_law_worth" (defScope st_Lworth) s.heap.objs.size f cdv))) (hgd : (A.deeper (envOfC "_law_worth" (defScope st_Lworth) s.heap.objs.size f cdv)).guards = some []) (c_Lworth : Cal P w K mg base k "_law_worth" 4 (spWorth n)) (c_Ldraw : Cal P w K mg base k "_law_draw" 2 spDraw) (c_Lpick : Cal P w K mg base k "_law_pick" 2 spPick) (n_range : mg "range" = none) (n_tuple : mg "tuple" = none) :
    QSs (cxOf CX0 P w K mg base N_Lworth "_law_worth" (defScope st_Lworth) f cdv A outer s H E).nox (defBody st_Lworth) (t_Lworth n) :=
  (s_cons (s_if (t_eq (ru hr) (q_ix (ru hr) (qv 1) qc_int) qc_str) (s_one (s_ret (q_tup (qa_cons qc_str (qa_cons (q_ix (ru hr) (qv 1) qc_int) (qa_cons (q_call c_Ldraw hr hgd rfl (qa_cons (qv 0) (qa_cons (q_ix (ru hr) (qv 2) (q_ix (ru hr) (qv 1) qc_int)) qa_nil))) qa_nil)))))) s_nil) (s_cons (s_if (t_eq (ru hr) (q_ix (ru hr) (qv 1) qc_int) qc_str) (s_one (s_ret (q_call c_Lpick hr hgd rfl (qa_cons (qv 0) (qa_cons (q_lst (qa_cons qc_int (qa_cons qc_int (qa_cons qc_int (qa_cons qc_int (qa_cons (q_call c_Ldraw hr hgd rfl (qa_cons (qv 0) (qa_cons (q_add (q_pow qc_int qc_int) qc_int) qa_nil))) qa_nil)))))) qa_nil))))) s_nil) (s_cons (s_if (t_eq (ru hr) (q_ix (ru hr) (qv 1) qc_int) qc_str) (s_one (s_ret (q_eq (ru hr) (q_call c_Ldraw hr hgd rfl (qa_cons (qv 0) (qa_cons qc_int qa_nil))) qc_int))) s_nil) (s_cons (s_if (t_eq (ru hr) (q_ix (ru hr) (qv 1) qc_int) qc_str) (s_cons (s_set (i := 5) nd_Lworth rfl (by first | exact Or.inl rfl | exact Or.inr rfl) (q_call c_Ldraw hr hgd rfl (qa_cons (qv 0) (qa_cons (q_add (qv 3) qc_int) qa_nil)))) (s_cons (s_setLc (own := [("_law_k", 8)]) (i := 6) rfl nd_Lworth rfl rfl (sw_true rfl rfl rfl (by decide +kernel)) (i_range1 rfl n_range (qa_cons (qv 5) qa_nil)) (blkOk_by (own := [("_law_k", 8)]) (N := N_Lworth) (sc := defScope st_Lworth) (by decide +kernel)) (tbind1 (i := 8)) (fun _ _ _ _ _ => pg_name (i := 8) nd_Lworth rfl (by first | exact Or.inl rfl | exact Or.inr rfl)) (fun _ _ _ _ _ => ts_nil) (fun _ _ _ _ _ => (q_call c_Lworth hr hgd rfl (qa_cons (qv 0) (qa_cons (q_ix (ru hr) (qv 1) qc_int) (qa_cons (qv 2) (qa_cons (qv 3) qa_nil))))))) (s_one (s_ret (q_tup (qa_cons qc_str (qa_cons (q_tuple rfl n_tuple (qa_cons (qv 6) qa_nil)) qa_nil))))))) s_nil) (s_cons (s_if (t_eq (ru hr) (q_ix (ru hr) (qv 1) qc_int) qc_str) (s_cons (s_set (i := 7) nd_Lworth rfl (by first | exact Or.inl rfl | exact Or.inr rfl) (q_call c_Ldraw hr hgd rfl (qa_cons (qv 0) (qa_cons qc_int qa_nil)))) (s_one (s_ret (q_tup (qa_cons (q_ix (ru hr) (q_lst (qa_cons qc_str (qa_cons qc_str qa_nil))) (qv 7)) (qa_cons (q_call c_Lworth hr hgd rfl (qa_cons (qv 0) (qa_cons (q_ix (ru hr) (qv 1) (q_add qc_int (qv 7))) (qa_cons (qv 2) (qa_cons (qv 3) qa_nil))))) qa_nil)))))) s_nil) (s_cons (s_set (i := 4) nd_Lworth rfl (by first | exact Or.inl rfl | exact Or.inr rfl) (q_call c_Lworth hr hgd rfl (qa_cons (qv 0) (qa_cons (q_ix (ru hr) (qv 1) qc_int) (qa_cons (qv 2) (qa_cons (qv 3) qa_nil)))))) (s_one (s_ret (q_tup (qa_cons qc_str (qa_cons (qv 4) (qa_cons (q_call c_Lworth hr hgd rfl (qa_cons (qv 0) (qa_cons (q_ix (ru hr) (qv 1) qc_int) (qa_cons (qv 2) (qa_cons (qv 3) qa_nil))))) qa_nil))))))))))))
/-! _law_maps -/
abbrev st_Lmaps : Stmt := top 12
abbrev N_Lmaps : List Str := ["_law_deck_here", "_law_sizes", "_law_faults", "_law_found", "_law_name", "_law_way", "_law_left", "_law_rows", "_law_k", "_law_to", "_law_fault"]
abbrev P_Lmaps : List Str := ["_law_deck_here", "_law_sizes", "_law_faults"]
theorem nd_Lmaps : (N_Lmaps).Nodup := by decide +kernel
theorem sc_Lmaps : FnScope N_Lmaps P_Lmaps (defScope st_Lmaps) := ⟨rfl, rfl, rfl, nd_Lmaps, rfl, by decide +kernel, by decide +kernel⟩
def t_Lmaps : TTS := (tsSeq (tsAsg (tlst tan) (tgN 3)) (tsSeq (tsFor (tiSeq (tbi oSorted (tac (tv 1) tan))) (tgN 4) (tsSeq (tsAsg (tcall 2 spDraw (tac (tv 0) (tac (tc (.int 4)) tan))) (tgN 5)) (tsSeq (tsAsg (tlRng1 (tb oIx (tv 1) (tv 4))) (tgN 6)) (tsSeq (tsAsg (tlst tan) (tgN 7)) (tsSeq (tsFor (tiRng1 (tac (tb oIx (tv 1) (tv 4)) tan)) (tgN 8) (tsSeq (tsAsg (tb oIx (tlst (tac (tcall 2 spDraw (tac (tv 0) (tac (tb oIx (tv 1) (tv 4)) tan))) (tac (tc (.int 0)) tan))) (tbi oInt (tac (tb oEq (tv 5) (tc (.int 2))) tan))) (tgN 9)) (tsSeq (tsIf (tq (tb oEq (tv 5) (tc (.int 1)))) (tsAsg (tml oPopAt (tv 6) (tcall 2 spDraw (tac (tv 0) (tac (tbi oLen (tac (tv 6) tan)) tan)))) (tgN 9)) tsNx) (tsSeq (tsAsg (tandV (tb oEq (tv 2) (tc (.int 1))) (tb oEq (tcall 2 spDraw (tac (tv 0) (tac (tc (.int 6)) tan))) (tc (.int 5)))) (tgN 10)) (tsDrop (tml oAppend (tv 7) (ttup (tac (ttup (tac (tc (.str "thing")) (tac (tv 4) (tac (tv 8) tan)))) (tac (tife (tq (tv 10)) (ttup (tac (tc (.str "fault")) tan)) (ttup (tac (tc (.str "thing")) (tac (tv 4) (tac (tv 9) tan))))) tan))))))))) (tsDrop (tml oAppend (tv 3) (ttup (tac (tv 4) (tac (ttup (tac (tc (.str "table")) (tac (tbi oTup (tac (tv 7) tan)) tan))) tan)))))))))) (tsRet (tbi oTup (tac (tv 3) tan)))))
theorem b_Lmaps {P : Program} {w : World} {K : PySem.W.Frag} {mg : Str → Option Value} {base : Heap} {f : Addr} {cdv : Value} {A : Around} {outer : List Env} {s : Shared} {H : Hp} {E : XK} {k : Nat}
    (hr : Room k (A.deeper (envOfC "_law_maps" (defScope st_Lmaps) s.heap.objs.size f cdv))) (hgd : (A.deeper (envOfC "_law_maps" (defScope st_Lmaps) s.heap.objs.size f cdv)).guards = some []) (c_Ldraw : Cal P w K mg base k "_law_draw" 2 spDraw) (n_int : mg "int" = none) (n_len : mg "len" = none) (n_list : mg "list" = none) (n_range : mg "range" = none) (n_sorted : mg "sorted" = none) (n_tuple : mg "tuple" = none) :
    QSs (cxOf CX0 P w K mg base N_Lmaps "_law_maps" (defScope st_Lmaps) f cdv A outer s H E).nox (defBody st_Lmaps) t_Lmaps :=
  (s_cons (s_set (i := 3) nd_Lmaps rfl (by first | exact Or.inl rfl | exact Or.inr rfl) (q_lst qa_nil)) (s_cons (s_for PassesOwn.never rfl (i_seq (q_sorted rfl rfl n_sorted (qa_cons (qv 1) qa_nil))) (g_name (i := 4) nd_Lmaps rfl (by first | exact Or.inl rfl | exact Or.inr rfl)) (s_cons (s_set (i := 5) nd_Lmaps rfl (by first | exact Or.inl rfl | exact Or.inr rfl) (q_call c_Ldraw hr hgd rfl (qa_cons (qv 0) (qa_cons qc_int qa_nil)))) (s_cons (s_set (i := 6) nd_Lmaps rfl (by first | exact Or.inl rfl | exact Or.inr rfl) (q_lstRng1 rfl rfl n_list rfl n_range (q_ix (ru hr) (qv 1) (qv 4)))) (s_cons (s_set (i := 7) nd_Lmaps rfl (by first | exact Or.inl rfl | exact Or.inr rfl) (q_lst qa_nil)) (s_cons (s_for PassesOwn.never rfl (i_range1 rfl n_range (qa_cons (q_ix (ru hr) (qv 1) (qv 4)) qa_nil)) (g_name (i := 8) nd_Lmaps rfl (by first | exact Or.inl rfl | exact Or.inr rfl)) (s_cons (s_set (i := 9) nd_Lmaps rfl (by first | exact Or.inl rfl | exact Or.inr rfl) (q_ix (ru hr) (q_lst (qa_cons (q_call c_Ldraw hr hgd rfl (qa_cons (qv 0) (qa_cons (q_ix (ru hr) (qv 1) (qv 4)) qa_nil))) (qa_cons qc_int qa_nil))) (q_int rfl n_int (qa_cons (q_eq (ru hr) (qv 5) qc_int) qa_nil)))) (s_cons (s_if (t_eq (ru hr) (qv 5) qc_int) (s_one (s_set (i := 9) nd_Lmaps rfl (by first | exact Or.inl rfl | exact Or.inr rfl) (q_popAt (qv 6) (q_call c_Ldraw hr hgd rfl (qa_cons (qv 0) (qa_cons (q_len rfl n_len (qa_cons (qv 6) qa_nil)) qa_nil)))))) s_nil) (s_cons (s_set (i := 10) nd_Lmaps rfl (by first | exact Or.inl rfl | exact Or.inr rfl) (q_and (q_eq (ru hr) (qv 2) qc_int) (q_one (q_eq (ru hr) (q_call c_Ldraw hr hgd rfl (qa_cons (qv 0) (qa_cons qc_int qa_nil))) qc_int)))) (s_one (s_expr (q_append (qv 7) (q_tup (qa_cons (q_tup (qa_cons qc_str (qa_cons (qv 4) (qa_cons (qv 8) qa_nil)))) (qa_cons (q_ife (t_val (qv 10)) (q_tup (qa_cons qc_str qa_nil)) (q_tup (qa_cons qc_str (qa_cons (qv 4) (qa_cons (qv 9) qa_nil))))) qa_nil)))))))))) (s_one (s_expr (q_append (qv 3) (q_tup (qa_cons (qv 4) (qa_cons (q_tup (qa_cons qc_str (qa_cons (q_tuple rfl n_tuple (qa_cons (qv 7) qa_nil)) qa_nil))) qa_nil))))))))))) (s_one (s_ret (q_tuple rfl n_tuple (qa_cons (qv 3) qa_nil))))))
/-! _law_mapped -/
abbrev st_Lmapped : Stmt := top 13
abbrev N_Lmapped : List Str := ["_law_maps_here", "_law_worth_here", "_law_parts", "_law_inner", "_law_told", "_law_one"]
abbrev P_Lmapped : List Str := ["_law_maps_here", "_law_worth_here"]
theorem nd_Lmapped : (N_Lmapped).Nodup := by decide +kernel
theorem sc_Lmapped : FnScope N_Lmapped P_Lmapped (defScope st_Lmapped) := ⟨rfl, rfl, rfl, nd_Lmapped, rfl, by decide +kernel, by decide +kernel⟩
def t_Lmapped (n : Nat) : TTS := (tsSeq (tsIf (tnot (tq (tisi "tuple" (tv 1)))) (tsRet (tv 1)) tsNx) (tsSeq (tsIf (tq (tb oEq (tb oIx (tv 1) (tc (.int 0))) (tc (.str "thing")))) (tsSeq (tsAsg (tb oIx (tb oIx (tb oIx (tb oIx (tbi oDict (tac (tv 0) tan)) (tb oIx (tv 1) (tc (.int 1)))) (tc (.int 1))) (tb oIx (tv 1) (tc (.int 2)))) (tc (.int 1))) (tgN 4)) (tsRet (tife (tq (tb oEq (tv 4) (ttup (tac (tc (.str "fault")) tan)))) (tc .non) (tv 4)))) tsNx) (tsSeq (tsAsg (tife (tq (tb oEq (tb oIx (tv 1) (tc (.int 0))) (tc (.str "list")))) (tb oIx (tv 1) (tc (.int 1))) (tsl (tv 1) (tpt (tc (.int 1))) tno)) (tgN 2)) (tsSeq (tsAsg (tlc (tiSeq (tv 2)) (bt1 5) ttYes (tcall 2 (spLmapped n) (tac (tv 0) (tac (tv 5) tan))) [5]) (tgN 3)) (tsSeq (tsIf (tq (tb (oInG false) (tc .non) (tv 3))) (tsRet (tc .non)) tsNx) (tsRet (tife (tq (tb oEq (tb oIx (tv 1) (tc (.int 0))) (tc (.str "list")))) (ttup (tac (tc (.str "list")) (tac (tbi oTup (tac (tv 3) tan)) tan))) (tb oAdd (ttup (tac (tb oIx (tv 1) (tc (.int 0))) tan)) (tbi oTup (tac (tv 3) tan))))))))))
theorem b_Lmapped {P : Program} {w : World} {K : PySem.W.Frag} {mg : Str → Option Value} {base : Heap} {f : Addr} {cdv : Value} {A : Around} {outer : List Env} {s : Shared} {H : Hp} {E : XK} {k : Nat} {n : Nat}
    (hr : Room k (A.deeper (envOfC "_law_mapped" (defScope st_Lmapped) s.heap.objs.size f cdv))) (hgd : (A.deeper (envOfC "_law_mapped" (defScope st_Lmapped) s.heap.objs.size f cdv)).guards = some []) (c_Lmapped : Cal P w K mg base k "_law_mapped" 2 (spLmapped n)) (n_dict : mg "dict" = none) (n_isinstance : mg "isinstance" = none) (n_tuple : mg "tuple" = none) :
    QSs (cxOf CX0 P w K mg base N_Lmapped "_law_mapped" (defScope st_Lmapped) f cdv A outer s H E).nox (defBody st_Lmapped) (t_Lmapped n) :=
  (s_cons (s_if (t_not (t_val (q_isi rfl n_isinstance rfl n_tuple (by decide +kernel) tyOk_tuple (qv 1)))) (s_one (s_ret (qv 1))) s_nil) (s_cons (s_if (t_eq (ru hr) (q_ix (ru hr) (qv 1) qc_int) qc_str) (s_cons (s_set (i := 4) nd_Lmapped rfl (by first | exact Or.inl rfl | exact Or.inr rfl) (q_ix (ru hr) (q_ix (ru hr) (q_ix (ru hr) (q_ix (ru hr) (q_dict rfl (ru hr) rfl n_dict (qa_cons (qv 0) qa_nil)) (q_ix (ru hr) (qv 1) qc_int)) qc_int) (q_ix (ru hr) (qv 1) qc_int)) qc_int)) (s_one (s_ret (q_ife (t_eq (ru hr) (qv 4) (q_tup (qa_cons qc_str qa_nil))) qc_non (qv 4))))) s_nil) (s_cons (s_set (i := 2) nd_Lmapped rfl (by first | exact Or.inl rfl | exact Or.inr rfl) (q_ife (t_eq (ru hr) (q_ix (ru hr) (qv 1) qc_int) qc_str) (q_ix (ru hr) (qv 1) qc_int) (q_sl (qv 1) (qo_some qc_int) qo_none))) (s_cons (s_setLc (own := [("_law_one", 5)]) (i := 3) rfl nd_Lmapped rfl rfl (sw_true rfl rfl rfl (by decide +kernel)) (i_seq (qv 2)) (blkOk_by (own := [("_law_one", 5)]) (N := N_Lmapped) (sc := defScope st_Lmapped) (by decide +kernel)) (tbind1 (i := 5)) (fun _ _ _ _ _ => pg_name (i := 5) nd_Lmapped rfl (by first | exact Or.inl rfl | exact Or.inr rfl)) (fun _ _ _ _ _ => ts_nil) (fun _ _ _ _ _ => (q_call c_Lmapped hr hgd rfl (qa_cons (qv 0) (qa_cons (qv 5) qa_nil))))) (s_cons (s_if (t_in (ru hr) qc_non (qv 3)) (s_one (s_ret qc_non)) s_nil) (s_one (s_ret (q_ife (t_eq (ru hr) (q_ix (ru hr) (qv 1) qc_int) qc_str) (q_tup (qa_cons qc_str (qa_cons (q_tuple rfl n_tuple (qa_cons (qv 3) qa_nil)) qa_nil))) (q_add (q_tup (qa_cons (q_ix (ru hr) (qv 1) qc_int) qa_nil)) (q_tuple rfl n_tuple (qa_cons (qv 3) qa_nil)))))))))))
/-! _law_bare -/
abbrev st_Lbare : Stmt := top 14
abbrev N_Lbare : List Str := ["_law_worth_here"]
abbrev P_Lbare : List Str := ["_law_worth_here"]
theorem nd_Lbare : (N_Lbare).Nodup := by decide +kernel
theorem sc_Lbare : FnScope N_Lbare P_Lbare (defScope st_Lbare) := ⟨rfl, rfl, rfl, nd_Lbare, rfl, by decide +kernel, by decide +kernel⟩
def t_Lbare : TTS := (tsRet (tife (tq (tb (oIsG false) (tv 0) (tc .non))) (ttup (tac (tc (.str "fault")) tan)) (ttup (tac (tc (.str "worth")) (tac (tv 0) tan)))))
theorem b_Lbare {P : Program} {w : World} {K : PySem.W.Frag} {mg : Str → Option Value} {base : Heap} {f : Addr} {cdv : Value} {A : Around} {outer : List Env} {s : Shared} {H : Hp} {E : XK} {k : Nat}
    (hr : Room k (A.deeper (envOfC "_law_bare" (defScope st_Lbare) s.heap.objs.size f cdv))) (hgd : (A.deeper (envOfC "_law_bare" (defScope st_Lbare) s.heap.objs.size f cdv)).guards = some []) :
    QSs (cxOf CX0 P w K mg base N_Lbare "_law_bare" (defScope st_Lbare) f cdv A outer s H E).nox (defBody st_Lbare) t_Lbare :=
  (s_one (s_ret (q_ife (t_is (qv 0) qc_non) (q_tup (qa_cons qc_str qa_nil)) (q_tup (qa_cons qc_str (qa_cons (qv 0) qa_nil))))))
/-! _law_right -/
abbrev st_Lright : Stmt := top 15
abbrev N_Lright : List Str := ["_law_kind", "_law_maps_here", "_law_worth_here", "_law_due", "_law_turn", "_law_found"]
abbrev P_Lright : List Str := ["_law_kind", "_law_maps_here", "_law_worth_here"]
theorem nd_Lright : (N_Lright).Nodup := by decide +kernel
theorem sc_Lright : FnScope N_Lright P_Lright (defScope st_Lright) := ⟨rfl, rfl, rfl, nd_Lright, rfl, by decide +kernel, by decide +kernel⟩
def t_Lright (n : Nat) : TTS := (tsSeq (tsAsg (tcall 1 spBare (tac (tcall 2 (spLmapped n) (tac (tv 1) (tac (tv 2) tan))) tan)) (tgN 3)) (tsSeq (tsFor (tiRng1 (tac (tc (.int 2)) tan)) (tgN 4) (tsSeq (tsAsg (tcall 3 (spMapped n) (tac (tv 0) (tac (tv 1) (tac (tv 2) tan)))) (tgN 5)) (tsIf (tor (tnot (tq (tisi "tuple" (tv 5)))) (tor (tq (tb oNe (tv 5) (tv 3))) (tq (tb oNe (tbi oRepr (tac (tv 5) tan)) (tbi oRepr (tac (tv 3) tan)))))) (tsRet (tc (.bl false))) tsNx))) (tsRet (tc (.bl true)))))
theorem b_Lright {P : Program} {w : World} {K : PySem.W.Frag} {mg : Str → Option Value} {base : Heap} {f : Addr} {cdv : Value} {A : Around} {outer : List Env} {s : Shared} {H : Hp} {E : XK} {k : Nat} {n : Nat}
    (hr : Room k (A.deeper (envOfC "_law_right" (defScope st_Lright) s.heap.objs.size f cdv))) (hgd : (A.deeper (envOfC "_law_right" (defScope st_Lright) s.heap.objs.size f cdv)).guards = some []) (c_mapped : Cal P w K mg base k "mapped" 3 (spMapped n)) (c_Lbare : Cal P w K mg base k "_law_bare" 1 spBare) (c_Lmapped : Cal P w K mg base k "_law_mapped" 2 (spLmapped n)) (n_isinstance : mg "isinstance" = none) (n_range : mg "range" = none) (n_repr : mg "repr" = none) (n_tuple : mg "tuple" = none) :
    QSs (cxOf CX0 P w K mg base N_Lright "_law_right" (defScope st_Lright) f cdv A outer s H E).nox (defBody st_Lright) (t_Lright n) :=
  (s_cons (s_set (i := 3) nd_Lright rfl (by first | exact Or.inl rfl | exact Or.inr rfl) (q_call c_Lbare hr hgd rfl (qa_cons (q_call c_Lmapped hr hgd rfl (qa_cons (qv 1) (qa_cons (qv 2) qa_nil))) qa_nil))) (s_cons (s_for PassesOwn.never rfl (i_range1 rfl n_range (qa_cons qc_int qa_nil)) (g_name (i := 4) nd_Lright rfl (by first | exact Or.inl rfl | exact Or.inr rfl)) (s_cons (s_set (i := 5) nd_Lright rfl (by first | exact Or.inl rfl | exact Or.inr rfl) (q_call c_mapped hr hgd rfl (qa_cons (qv 0) (qa_cons (qv 1) (qa_cons (qv 2) qa_nil))))) (s_one (s_if (t_w (w_or (t_not (t_val (q_isi rfl n_isinstance rfl n_tuple (by decide +kernel) tyOk_tuple (qv 5)))) (w_or (t_ne (ru hr) (qv 5) (qv 3)) (w_or1 (t_ne (ru hr) (q_repr hgd (ru hr) rfl n_repr (qa_cons (qv 5) qa_nil)) (q_repr hgd (ru hr) rfl n_repr (qa_cons (qv 3) qa_nil))))))) (s_one (s_ret qc_bl)) s_nil)))) (s_one (s_ret qc_bl))))
/-! law -/
abbrev st_law : Stmt := top 16
abbrev N_law : List Str := ["_law_script", "_law_k", "_law_deck_here", "_law_far", "_law_faults", "_law_opens", "_law_sizes", "_law_maps_here", "_law_same", "_law_turn", "_law_kind", "_law_worth_here", "_law_name", "_law_table", "_law_row"]
abbrev P_law : List Str := ["_law_script"]
theorem nd_law : (N_law).Nodup := by decide +kernel
theorem sc_law : FnScope N_law P_law (defScope st_law) := ⟨rfl, rfl, rfl, nd_law, rfl, by decide +kernel, by decide +kernel⟩
def t_law (n : Nat) : TTS := (tsSeq (tsFor (tiRng1 (tac (tbi oMax2 (tac (tc (.int 1)) (tac (tbi oMin2 (tac (tbi oLen (tac (tv 0) tan)) (tac (tc (.int 4)) tan))) tan))) tan)) (tgN 1) (tsSeq (tsAsg (tcall 1 spDeck (tac (tb oAdd (tb oAdd (tsl (tv 0) (tpt (tv 1)) (tpt (tb oAdd (tv 1) (tc (.int 1))))) (tsl (tv 0) tno (tpt (tv 1)))) (tsl (tv 0) (tpt (tb oAdd (tv 1) (tc (.int 1)))) tno)) tan)) (tgN 2)) (tsSeq (tsAsg (tb oEq (tcall 2 spDraw (tac (tv 2) (tac (tc (.int 8)) tan))) (tc (.int 5))) (tgN 3)) (tsSeq (tsAsg (tcall 2 spDraw (tac (tv 2) (tac (tc (.int 2)) tan))) (tgN 4)) (tsSeq (tsAsg (tcall 2 spNames (tac (tv 2) (tac (tb oAdd (tc (.int 1)) (tcall 2 spDraw (tac (tv 2) (tac (tc (.int 4)) tan)))) tan))) (tgN 5)) (tsSeq (tsAsg (tbi oDict (tac (tlc (tiSeq (tv 5)) (bt1 12) ttYes (ttup (tac (tv 12) (tac (tb oAdd (tc (.int 1)) (tcall 2 spDraw (tac (tv 2) (tac (tc (.int 3)) tan)))) tan))) [12]) tan)) (tgN 6)) (tsSeq (tsIf (tq (tv 3)) (tsAsg (tc (.int 12)) (tgSub (tv 6) (tb oIx (tv 5) (tc (.int 0))))) tsNx) (tsSeq (tsAsg (tcall 3 spMaps (tac (tv 2) (tac (tv 6) (tac (tv 4) tan)))) (tgN 7)) (tsSeq (tsAsg (tbi oTup (tac (tlc (tiSeq (tv 7)) (btN [12, 13]) ttYes (ttup (tac (tv 12) (tac (ttup (tac (tc (.str "table")) (tac (tbi oTup (tac (tlc (tiSeq (tb oIx (tv 13) (tc (.int 1)))) (bt1 14) ttYes (ttup (tac (tb oIx (tv 14) (tc (.int 0))) (tac (tb oIx (tv 14) (tc (.int 0))) tan))) [14]) tan)) tan))) tan))) [12, 13]) tan)) (tgN 8)) (tsFor (tiRng1 (tac (tc (.int 6)) tan)) (tgN 9) (tsSeq (tsAsg (tcall 4 (spData n) (tac (tv 2) (tac (tv 5) (tac (tb oAdd (tc (.int 1)) (tcall 2 spDraw (tac (tv 2) (tac (tc (.int 3)) tan)))) (tac (tc (.bl false)) tan))))) (tgN 10)) (tsSeq (tsAsg (tcall 4 (spWorth n) (tac (tv 2) (tac (tv 10) (tac (tv 6) (tac (tb oIx (tlst (tac (tc (.int 3)) (tac (tc (.int 12)) tan))) (tbi oInt (tac (tandV (tb oEq (tv 9) (tc (.int 5))) (tb (oInG true) (tc (.str "list")) (tbi oRepr (tac (tsl (tv 10) (tpt (tc (.int 1))) tno) tan)))) tan))) tan))))) (tgN 11)) (tsSeq (tsIf (tnot (tq (tcall 3 spRight (tac (tv 10) (tac (tv 7) (tac (tv 11) tan)))))) (tsRet (tc (.bl false))) tsNx) (tsSeq (tsIf (tnot (tq (tcall 3 spRight (tac (tv 10) (tac (tv 8) (tac (tv 11) tan)))))) (tsRet (tc (.bl false))) tsNx) (tsIf (tq (tb oNe (tcall 3 (spMapped n) (tac (tv 10) (tac (tv 8) (tac (tv 11) tan)))) (ttup (tac (tc (.str "worth")) (tac (tv 11) tan))))) (tsRet (tc (.bl false))) tsNx))))))))))))))) (tsRet (tc (.bl true))))
theorem b_law {P : Program} {w : World} {K : PySem.W.Frag} {mg : Str → Option Value} {base : Heap} {f : Addr} {cdv : Value} {A : Around} {outer : List Env} {s : Shared} {H : Hp} {E : XK} {k : Nat} {n : Nat}
    (hr : Room k (A.deeper (envOfC "law" (defScope st_law) s.heap.objs.size f cdv))) (hgd : (A.deeper (envOfC "law" (defScope st_law) s.heap.objs.size f cdv)).guards = some []) (c_mapped : Cal P w K mg base k "mapped" 3 (spMapped n)) (c_Lright : Cal P w K mg base k "_law_right" 3 spRight) (c_Lworth : Cal P w K mg base k "_law_worth" 4 (spWorth n)) (c_Ldata : Cal P w K mg base k "_law_data" 4 (spData n)) (c_Ldraw : Cal P w K mg base k "_law_draw" 2 spDraw) (c_Lmaps : Cal P w K mg base k "_law_maps" 3 spMaps) (c_Lnames : Cal P w K mg base k "_law_names" 2 spNames) (c_Ldeck : Cal P w K mg base k "_law_deck" 1 spDeck) (n_dict : mg "dict" = none) (n_int : mg "int" = none) (n_len : mg "len" = none) (n_max : mg "max" = none) (n_min : mg "min" = none) (n_range : mg "range" = none) (n_repr : mg "repr" = none) (n_tuple : mg "tuple" = none) :
    QSs (cxOf CX0 P w K mg base N_law "law" (defScope st_law) f cdv A outer s H E).nox (defBody st_law) (t_law n) :=
  (s_cons (s_for PassesOwn.never rfl (i_range1 rfl n_range (qa_cons (q_max2 rfl rfl n_max (qa_cons qc_int (qa_cons (q_min2 rfl rfl n_min (qa_cons (q_len rfl n_len (qa_cons (qv 0) qa_nil)) (qa_cons qc_int qa_nil))) qa_nil))) qa_nil)) (g_name (i := 1) nd_law rfl (by first | exact Or.inl rfl | exact Or.inr rfl)) (s_cons (s_set (i := 2) nd_law rfl (by first | exact Or.inl rfl | exact Or.inr rfl) (q_call c_Ldeck hr hgd rfl (qa_cons (q_add (q_add (q_sl (qv 0) (qo_some (qv 1)) (qo_some (q_add (qv 1) qc_int))) (q_sl (qv 0) qo_none (qo_some (qv 1)))) (q_sl (qv 0) (qo_some (q_add (qv 1) qc_int)) qo_none)) qa_nil))) (s_cons (s_set (i := 3) nd_law rfl (by first | exact Or.inl rfl | exact Or.inr rfl) (q_eq (ru hr) (q_call c_Ldraw hr hgd rfl (qa_cons (qv 2) (qa_cons qc_int qa_nil))) qc_int)) (s_cons (s_set (i := 4) nd_law rfl (by first | exact Or.inl rfl | exact Or.inr rfl) (q_call c_Ldraw hr hgd rfl (qa_cons (qv 2) (qa_cons qc_int qa_nil)))) (s_cons (s_set (i := 5) nd_law rfl (by first | exact Or.inl rfl | exact Or.inr rfl) (q_call c_Lnames hr hgd rfl (qa_cons (qv 2) (qa_cons (q_add qc_int (q_call c_Ldraw hr hgd rfl (qa_cons (qv 2) (qa_cons qc_int qa_nil)))) qa_nil)))) (s_cons (s_set (i := 6) nd_law rfl (by first | exact Or.inl rfl | exact Or.inr rfl) (q_dict rfl (ru hr) rfl n_dict (qa_cons (q_lc (own := [("_law_name", 12)]) rfl nd_law (i_seq (qv 5)) (blkOk_by (own := [("_law_name", 12)]) (N := N_law) (sc := defScope st_law) (by decide +kernel)) (tbind1 (i := 12)) (fun _ _ _ _ _ => pg_name (i := 12) nd_law rfl (by first | exact Or.inl rfl | exact Or.inr rfl)) (fun _ _ _ _ _ => ts_nil) (fun _ _ _ _ _ => (q_tup (qa_cons (qv 12) (qa_cons (q_add qc_int (q_call c_Ldraw hr hgd rfl (qa_cons (qv 2) (qa_cons qc_int qa_nil)))) qa_nil))))) qa_nil))) (s_cons (s_if (t_val (qv 3)) (s_one (s_asg qc_int (g_sub (ru hr) (qv 6) (q_ix (ru hr) (qv 5) qc_int)))) s_nil) (s_cons (s_set (i := 7) nd_law rfl (by first | exact Or.inl rfl | exact Or.inr rfl) (q_call c_Lmaps hr hgd rfl (qa_cons (qv 2) (qa_cons (qv 6) (qa_cons (qv 4) qa_nil))))) (s_cons (s_set (i := 8) nd_law rfl (by first | exact Or.inl rfl | exact Or.inr rfl) (q_tuple rfl n_tuple (qa_cons (q_lc (own := [("_law_name", 12), ("_law_table", 13)]) rfl nd_law (i_seq (qv 7)) (blkOk_by (own := [("_law_name", 12), ("_law_table", 13)]) (N := N_law) (sc := defScope st_law) (by decide +kernel)) (tbindN (n := 2) rfl) (fun _ _ _ _ _ => pg_tup (n := 2) rfl (pgs_cons (pg_name (i := 12) nd_law rfl (by first | exact Or.inl rfl | exact Or.inr rfl)) (pgs_cons (pg_name (i := 13) nd_law rfl (by first | exact Or.inl rfl | exact Or.inr rfl)) pgs_nil))) (fun _ _ _ _ _ => ts_nil) (fun _ _ _ _ _ => (q_tup (qa_cons (qv 12) (qa_cons (q_tup (qa_cons qc_str (qa_cons (q_tuple rfl n_tuple (qa_cons (q_lc (own := [("_law_row", 14)]) rfl nd_law (i_seq (q_ix (ru hr) (qv 13) qc_int)) (blkOk_by (by rfl)) (tbind1 (i := 14)) (fun _ _ _ _ _ => pg_name (i := 14) nd_law rfl (by first | exact Or.inl rfl | exact Or.inr rfl)) (fun _ _ _ _ _ => ts_nil) (fun _ _ _ _ _ => (q_tup (qa_cons (q_ix (ru hr) (qv 14) qc_int) (qa_cons (q_ix (ru hr) (qv 14) qc_int) qa_nil))))) qa_nil)) qa_nil))) qa_nil))))) qa_nil))) (s_one (s_for PassesOwn.never rfl (i_range1 rfl n_range (qa_cons qc_int qa_nil)) (g_name (i := 9) nd_law rfl (by first | exact Or.inl rfl | exact Or.inr rfl)) (s_cons (s_set (i := 10) nd_law rfl (by first | exact Or.inl rfl | exact Or.inr rfl) (q_call c_Ldata hr hgd rfl (qa_cons (qv 2) (qa_cons (qv 5) (qa_cons (q_add qc_int (q_call c_Ldraw hr hgd rfl (qa_cons (qv 2) (qa_cons qc_int qa_nil)))) (qa_cons qc_bl qa_nil)))))) (s_cons (s_set (i := 11) nd_law rfl (by first | exact Or.inl rfl | exact Or.inr rfl) (q_call c_Lworth hr hgd rfl (qa_cons (qv 2) (qa_cons (qv 10) (qa_cons (qv 6) (qa_cons (q_ix (ru hr) (q_lst (qa_cons qc_int (qa_cons qc_int qa_nil))) (q_int rfl n_int (qa_cons (q_and (q_eq (ru hr) (qv 9) qc_int) (q_one (q_notin (ru hr) qc_str (q_repr hgd (ru hr) rfl n_repr (qa_cons (q_sl (qv 10) (qo_some qc_int) qo_none) qa_nil))))) qa_nil))) qa_nil)))))) (s_cons (s_if (t_not (t_val (q_call c_Lright hr hgd rfl (qa_cons (qv 10) (qa_cons (qv 7) (qa_cons (qv 11) qa_nil)))))) (s_one (s_ret qc_bl)) s_nil) (s_cons (s_if (t_not (t_val (q_call c_Lright hr hgd rfl (qa_cons (qv 10) (qa_cons (qv 8) (qa_cons (qv 11) qa_nil)))))) (s_one (s_ret qc_bl)) s_nil) (s_one (s_if (t_ne (ru hr) (q_call c_mapped hr hgd rfl (qa_cons (qv 10) (qa_cons (qv 8) (qa_cons (qv 11) qa_nil)))) (q_tup (qa_cons qc_str (qa_cons (qv 11) qa_nil)))) (s_one (s_ret qc_bl)) s_nil))))))))))))))))) (s_one (s_ret qc_bl)))
end LAW
set_option Elab.async false
set_option linter.all false
set_option maxRecDepth 100000
set_option maxHeartbeats 1000000
/-! TLC1: the deck. -/
namespace LAW
open PySem PySem.Spec PyProof.Rows L2 TL
theorem Deck.new {S : Sto} {D C p : Addr} {o : MO} (d : Deck S D C) (h : S p = none) : Deck (S.set p o) D C := by
  obtain ⟨ne, cells, mix, cnt, h1, h2, h3⟩ := d
  exact ⟨ne, cells, mix, cnt, by rw [set_ne (nn h h1)]; exact h1, by rw [set_ne (nn h h2)]; exact h2, h3⟩
theorem Fr.refl {S : Sto} {D C : Addr} (d : Deck S D C) : Fr D C S S := ⟨d, fun _ _ _ _ h => h⟩
theorem Fr.trans {S S1 S2 : Sto} {D C : Addr} (a : Fr D C S S1) (b : Fr D C S1 S2) : Fr D C S S2 := ⟨b.dk, fun c o h1 h2 h => b.kp c o h1 h2 (a.kp c o h1 h2 h)⟩
theorem Fr.new {S S1 : Sto} {D C p : Addr} {o : MO} (a : Fr D C S S1) (h : S1 p = none) : Fr D C S (S1.set p o) := ⟨a.dk.new h, fun c m h1 h2 e => by
  have := a.kp c m h1 h2 e
  rw [set_ne (nn h this)]; exact this⟩
theorem Fr.ex {S S1 S2 : Sto} {D C : Addr} (a : Fr D C S S1) (b : Ex S1 S2) : Fr D C S S2 := by
  refine ⟨?_, fun c o h1 h2 h => b c o (a.kp c o h1 h2 h)⟩
  obtain ⟨ne, cells, mix, cnt, h1, h2, h3⟩ := a.dk
  exact ⟨ne, cells, mix, cnt, b _ _ h1, b _ _ h2, h3⟩
theorem Fr.none {S S' : Sto} {D C p : Addr} (a : Fr D C S S') (d : Deck S D C) (h : S' p = none) : S p = none := by
  obtain ⟨ne, cells, mix, cnt, h1, h2, h3⟩ := a.dk
  cases q : S p with
  | none => rfl
  | some o =>
    have hD : p ≠ D := fun z => by rw [z, h1] at h; cases h
    have hC : p ≠ C := fun z => by rw [z, h2] at h; cases h
    rw [a.kp p o hD hC q] at h; cases h
theorem mod_draw {m x : Int} (h : 1 ≤ m) : 0 ≤ x % m ∧ x % m < m := ⟨Int.emod_nonneg _ (by omega), Int.emod_lt_of_pos _ (by omega)⟩
theorem eqTs_nil' (ns : List Int) : eqTs (ns.map T.int) [] = ns.isEmpty := by
  cases ns with
  | nil => exact eqTs_nil
  | cons n ns => exact eqTs_cn
theorem p18 : ((10 : Int) ^ (18 : Int).toNat) = 1000000000000000000 := by decide
set_option maxHeartbeats 4000000 in
theorem vc_draw (ts : List T) (S : Sto) (Q : T → Sto → Prop) (hl : ts.length = 2) (h : spDraw ts S Q) : t_Ldraw (endT Q) (startT N_Ldraw.length ts) S := by
  obtain ⟨D, C, m, rfl, ⟨ne, cells, mix, cnt, hD, hC, h100⟩, hm, hm2, q⟩ := h
  have e : startT N_Ldraw.length [T.adr D, T.int m] = [some (T.adr D), some (T.int m), none, none] := rfl
  rw [e]
  unfold t_Ldraw
  refine seq_cut fun v1 hv1 => ?_
  try simp only [tsNx, tsSeq, tsBrk, tsCt, tsDrop, tsRet, tsRetN, tsIf, tsAsg, tgN, tgsNil, tgsCons, tgTup, tgSub, tsFor, tsWhile, tiSeq, tiRng1, tiRng2, tiZip, tb, tv, tc, tac, tan, ttup, tlst, tq, tand, tor, tnot, tife, tandV, torV, tnotV, tneg, tsl, tno, tpt, tcall, tbi, tml, tml0, tmj, tisi, tlRev, tlRng1, tdisp, tps, tlc, ttYes, bt1, btN, setsT, wipeT, endT, List.getElem?_cons_zero, List.getElem?_cons_succ, List.set_cons_zero, List.set_cons_succ]
  refine st_ixl hD rfl ?_
  refine st_add ?_
  refine st_set hD rfl rfl fun S1 u1 => ?_
  have hD1 : S1 D = some (.lst [T.adr C, T.int mix, T.int (cnt + 1)]) := u1.at_
  have hC1 := u1.get (Ne.symm ne) hC
  have f1 : Fr D C S S1 := ⟨⟨ne, cells, mix, cnt + 1, hD1, hC1, h100⟩, fun a o h1 h2 h => u1.get h1 h⟩
  rw [hv1]
  refine seq_cut fun v2 hv2 => ?_
  -- behind the choice of the cell
  have rest : ∀ (cell : Int) (cells' : List Int) (S3 : Sto), cells'.length ≤ 100 → (10 ^ 18 ≤ cell → cells'.length < 100) → S3 D = some (.lst [T.adr C, T.int mix, T.int (cnt + 1)]) → S3 C = some (.lst (cells'.map T.int)) → (∀ a o, a ≠ D → a ≠ C → S a = some o → S3 a = some o) →
      v2 (endT Q) [some (T.adr D), some (T.int m), some (T.int cell), none] S3 := by
    intro cell cells' S3 hc1 hc2 h3D h3C h3
    rw [hv2]
    try simp only [tsNx, tsSeq, tsBrk, tsCt, tsDrop, tsRet, tsRetN, tsIf, tsAsg, tgN, tgsNil, tgsCons, tgTup, tgSub, tsFor, tsWhile, tiSeq, tiRng1, tiRng2, tiZip, tb, tv, tc, tac, tan, ttup, tlst, tq, tand, tor, tnot, tife, tandV, torV, tnotV, tneg, tsl, tno, tpt, tcall, tbi, tml, tml0, tmj, tisi, tlRev, tlRng1, tdisp, tps, tlc, ttYes, bt1, btN, setsT, wipeT, endT, List.getElem?_cons_zero, List.getElem?_cons_succ, List.set_cons_zero, List.set_cons_succ]
    refine st_pow ⟨by decide, by decide, by decide⟩ ?_
    rw [p18]
    refine st_ge ?_
    by_cases hbig : (1000000000000000000 : Int) ≤ cell
    · simp only [kq, decide_eq_true hbig]
      refine st_ixl h3D rfl ?_
      refine ⟨st_isl h3C, ?_⟩
      refine st_div (div_64 (by omega) (by omega)) ?_
      refine st_app h3C (by rw [List.length_map]; exact Nat.lt_of_lt_of_le (hc2 hbig) (by decide)) fun S4 u4 => ?_
      refine st_mod (by omega) ?_
      obtain ⟨g1, g2⟩ := mod_draw (x := cell) hm
      refine q _ _ g1 g2 ⟨⟨ne, cells' ++ [cell / m], mix, cnt + 1, u4.get ne h3D, by rw [u4.at_]; simp, by rw [List.length_append]; have := hc2 hbig; simp; omega⟩, fun a o h1 h2 h => u4.get h2 (h3 a o h1 h2 h)⟩
    · simp only [kq, decide_eq_false hbig]
      refine st_mod (by omega) ?_
      refine st_ixl h3D rfl ?_
      refine st_mul (mul_l (by omega) (by omega)) ?_
      refine st_add ?_
      refine st_add ?_
      refine st_mul (mul_r (by omega) (by omega)) ?_
      refine st_mod (by omega) ?_
      generalize (cell % 2147483629 + 104729 * (cnt + 1) + 1) * 48271 = y
      have y1 := Int.emod_nonneg y (b := 2147483647) (by omega)
      have y2 := Int.emod_lt_of_pos y (b := 2147483647) (by omega)
      generalize y % 2147483647 = z at *
      refine st_mul (mul_l (by omega) (by omega)) ?_
      refine st_ixl h3D rfl ?_
      refine st_mul (mul_l (by omega) (by omega)) ?_
      refine st_add ?_
      refine st_add ?_
      refine st_mod (by omega) ?_
      generalize z * z + 69621 * (cnt + 1) + 7 = y'
      have y1' := Int.emod_nonneg y' (b := 2147483587) (by omega)
      have y2' := Int.emod_lt_of_pos y' (b := 2147483587) (by omega)
      generalize y' % 2147483587 = z' at *
      refine st_div (div_64 (by omega) (by omega)) ?_
      refine st_add ?_
      refine st_mul (mul_l (by omega) (by omega)) ?_
      refine st_mod (by omega) ?_
      refine st_div (div_64 (by omega) (by omega)) ?_
      refine st_mod (by omega) ?_
      obtain ⟨g1, g2⟩ := mod_draw (x := z' * (z' / 3 + 39373) % 2305843009213693951 / 128) hm
      exact q _ _ g1 g2 ⟨⟨ne, cells', mix, cnt + 1, h3D, h3C, hc1⟩, h3⟩
  try simp only [tsNx, tsSeq, tsBrk, tsCt, tsDrop, tsRet, tsRetN, tsIf, tsAsg, tgN, tgsNil, tgsCons, tgTup, tgSub, tsFor, tsWhile, tiSeq, tiRng1, tiRng2, tiZip, tb, tv, tc, tac, tan, ttup, tlst, tq, tand, tor, tnot, tife, tandV, torV, tnotV, tneg, tsl, tno, tpt, tcall, tbi, tml, tml0, tmj, tisi, tlRev, tlRng1, tdisp, tps, tlc, ttYes, bt1, btN, setsT, wipeT, endT, List.getElem?_cons_zero, List.getElem?_cons_succ, List.set_cons_zero, List.set_cons_succ]
  refine st_ixl hD1 rfl ?_
  refine st_nil (nw fun p S2 hp hpp x2 => ?_)
  have hD2 := x2 _ _ hD1
  have hC2 := x2 _ _ hC1
  have f2 : Fr D C S S2 := f1.ex x2
  refine st_eql hC2 hpp (purs_ints _) purs_nil (by rw [depths_nil]; simp) ?_
  rw [eqTs_nil']
  cases cells with
  | nil =>
    simp only [kq, List.isEmpty_nil, eqG]
    refine st_ixl hD2 rfl ?_
    exact rest _ [] S2 (by simp) (by simp) hD2 hC2 f2.kp
  | cons c0 cr =>
    simp only [kq, List.isEmpty_cons, eqG]
    refine st_ixl hD2 rfl ?_
    refine ⟨st_isl hC2, ?_⟩
    have hne : (c0 :: cr) ≠ [] := by simp
    refine st_pop (y := .int ((c0 :: cr).getLast hne)) hC2 ?_ fun S3 u3 => ?_
    · rw [List.getElem?_map, List.length_map, ← List.getLast?_eq_getElem?, List.getLast?_eq_some_getLast hne]; rfl
    · refine rest _ (c0 :: cr).dropLast S3 ?_ ?_ (u3.get ne hD2) (by rw [u3.at_, List.map_dropLast]) fun a o h1 h2 h => u3.get h2 (f2.kp a o h1 h2 h)
      · rw [List.length_dropLast]; omega
      · intro _; rw [List.length_dropLast]; simp at h100 ⊢; omega
end LAW
set_option Elab.async false
set_option linter.all false
set_option maxRecDepth 100000
set_option maxHeartbeats 4000000
/-! TLC2: the deck's making, a pick, names. -/
namespace LAW
open PySem PySem.Spec PyProof.Rows L2 TL
theorem atI_ok {α : Type} {xs : List α} {i : Int} (h0 : 0 ≤ i) (h : i < xs.length) : ∃ x, atI xs i = some x ∧ x ∈ xs ∧ xs[i.toNat]? = some x := by
  have hk : i.toNat < xs.length := by omega
  have e : i = ((i.toNat : Nat) : Int) := by omega
  have q : atI xs ((i.toNat : Nat) : Int) = some xs[i.toNat] := atI_nat (List.getElem?_eq_getElem hk)
  rw [← e] at q
  exact ⟨_, q, List.getElem_mem hk, List.getElem?_eq_getElem hk⟩
theorem ixN_ok {n : Nat} {i : Int} (h0 : 0 ≤ i) (h : i < n) : ixN n i = some i.toNat := by
  have := @atI_ok Nat (List.range n) i h0 (by simpa using h)
  obtain ⟨x, hx, _, hx2⟩ := this
  unfold atI at hx
  rw [List.length_range] at hx
  cases e : ixN n i with
  | none => rw [e] at hx; cases hx
  | some k =>
    rw [e] at hx
    have hx : (List.range n)[k]? = some x := hx
    obtain ⟨h1, h2⟩ := List.getElem?_eq_some_iff.mp hx
    obtain ⟨h3, h4⟩ := List.getElem?_eq_some_iff.mp hx2
    simp at h2 h4
    rw [h2, ← h4]
theorem rng_none {lo : Int} {n i : Nat} (h : (rngT lo n)[i]? = none) : n ≤ i := by
  have := List.getElem?_eq_none_iff.mp h
  rw [rngT_len] at this; exact this
theorem rng_some {lo : Int} {n i : Nat} {x : T} (h : (rngT lo n)[i]? = some x) : i < n ∧ x = .int (lo + i) := by
  have h1 := (List.getElem?_eq_some_iff.mp h).1
  rw [rngT_len] at h1
  rw [rngT_get n lo i h1] at h
  cases h
  exact ⟨h1, rfl⟩
theorem cut_ints (ns : List Int) (lo hi : Option Int) : ∃ ms : List Int, cutT (ns.map T.int) lo hi = ms.map T.int ∧ ms.length ≤ ns.length := by
  unfold cutT
  refine ⟨_, by rw [← List.map_drop, ← List.map_take], ?_⟩
  rw [List.length_take, List.length_drop]
  omega
theorem s63 (n : Nat) : HT.sIx n n (some 63) ≤ 63 := by
  unfold HT.sIx
  simp
  omega
theorem cut63 (xs : List T) : (cutT xs none (some 63)).length ≤ 63 := by
  unfold cutT
  rw [List.length_take]
  have := s63 xs.length
  omega
theorem vc_deck (ts : List T) (S : Sto) (Q : T → Sto → Prop) (hl : ts.length = 1) (h : spDeck ts S Q) : t_Ldeck (endT Q) (startT N_Ldeck.length ts) S := by
  obtain ⟨ns, b, rfl, hb, q⟩ := h
  rw [show startT N_Ldeck.length [T.adr b] = [some (T.adr b), none] from rfl]
  try simp only [t_Ldeck, tsNx, tsSeq, tsBrk, tsCt, tsDrop, tsRet, tsRetN, tsIf, tsAsg, tgN, tgsNil, tgsCons, tgTup, tgSub, tsFor, tsWhile, tiSeq, tiRng1, tiRng2, tiZip, tb, tv, tc, tac, tan, ttup, tlst, tq, tand, tor, tnot, tife, tandV, torV, tnotV, tneg, tsl, tno, tpt, tcall, tbi, tml, tml0, tmj, tisi, tlRev, tlRng1, tdisp, tps, tlc, ttYes, bt1, btN, setsT, wipeT, endT, List.getElem?_cons_zero, List.getElem?_cons_succ, List.set_cons_zero, List.set_cons_succ]
  refine st_sll hb (nw fun p S1 hp hpp x1 => ?_)
  obtain ⟨ms, e1, _⟩ := cut_ints ns none (some 63)
  have e2 : ms.length ≤ 63 := by
    have := congrArg List.length e1
    rw [List.length_map] at this
    rw [← this]
    exact cut63 _
  rw [e1] at hpp
  simp only [lstAt_of hpp]
  refine nw fun C S2 hC hCC x2 => ?_
  rw [← List.map_reverse] at hCC
  refine st_sum hCC ?_
  refine st_mod (by omega) ?_
  refine st_lenl hCC ?_
  refine st_mul (mul_l (by omega) (by omega)) ?_
  refine st_add ?_
  refine st_lst (by simp) (nw fun D S3 hD hDD x3 => ?_)
  have hne : D ≠ C := fun z => by rw [z, hCC] at hD; cases hD
  refine q D C S3 (x1.none (x2.none hD)) (x1.none hC) ⟨hne, _, _, _, hDD, x3 _ _ hCC, ?_⟩ ((x1.trans x2).trans x3)
  rw [List.length_reverse]; omega
theorem vc_pick (ts : List T) (S : Sto) (Q : T → Sto → Prop) (hl : ts.length = 2) (h : spPick ts S Q) : t_Lpick (endT Q) (startT N_Lpick.length ts) S := by
  obtain ⟨D, C, b, xs, rfl, dk, n1, n2, hb, h1, h2, q⟩ := h
  rw [show startT N_Lpick.length [T.adr D, T.adr b] = [some (T.adr D), some (T.adr b)] from rfl]
  try simp only [t_Lpick, tsNx, tsSeq, tsBrk, tsCt, tsDrop, tsRet, tsRetN, tsIf, tsAsg, tgN, tgsNil, tgsCons, tgTup, tgSub, tsFor, tsWhile, tiSeq, tiRng1, tiRng2, tiZip, tb, tv, tc, tac, tan, ttup, tlst, tq, tand, tor, tnot, tife, tandV, torV, tnotV, tneg, tsl, tno, tpt, tcall, tbi, tml, tml0, tmj, tisi, tlRev, tlRng1, tdisp, tps, tlc, ttYes, bt1, btN, setsT, wipeT, endT, List.getElem?_cons_zero, List.getElem?_cons_succ, List.set_cons_zero, List.set_cons_succ]
  refine st_lenl hb ⟨rfl, D, C, _, rfl, dk, by omega, by omega, fun v S' v1 v2 fr => ?_⟩
  obtain ⟨x, e, hx, _⟩ := atI_ok (xs := xs) v1 v2
  exact st_ixl (fr.kp _ _ n1 n2 hb) e (q x S' hx fr)
/-! texts -/
theorem letters_is : (Str.ofString "abcdefghijklmnopqrstuvwxyz").cps.toList = (List.range 26).map (· + 97) := by decide +kernel
theorem letters_at {s : Int} (h0 : 0 ≤ s) (h : s < 26) : ∃ c, atI (Str.ofString "abcdefghijklmnopqrstuvwxyz").cps.toList s = some c ∧ 97 ≤ c ∧ c ≤ 122 := by
  rw [letters_is]
  obtain ⟨x, e, hx, _⟩ := atI_ok (xs := (List.range 26).map (· + 97)) h0 (by simpa using h)
  refine ⟨x, e, ?_⟩
  simp at hx
  omega
theorem join_ones : ∀ cs : List Nat, (Txt.join (Str.ofString "") (cs.map fun c => (⟨#[c]⟩ : Str))).cps.toList = cs := by
  intro cs
  rw [join_eq]
  have key : ∀ cs : List Nat, tl (Str.join (Str.ofString "") (cs.map fun c => (⟨#[c]⟩ : Str))) = cs := by
    intro cs
    rw [tl_join]
    have hs : tl (Str.ofString "") = [] := by decide +kernel
    rw [hs]
    induction cs with
    | nil => rfl
    | cons c r ih =>
      cases r with
      | nil => rfl
      | cons d r => exact congrArg (c :: ·) ih
  exact key cs
theorem join_lower {cs : List Nat} (h1 : 1 ≤ cs.length) (h8 : cs.length ≤ 8) (hc : ∀ c ∈ cs, 97 ≤ c ∧ c ≤ 122) : lower (Txt.join (Str.ofString "") (cs.map fun c => (⟨#[c]⟩ : Str))) := by
  have e := join_ones cs
  refine ⟨?_, ?_, by rw [e]; exact hc⟩
  · show 1 ≤ Array.size _; rw [← Array.length_toList, e]; exact h1
  · show Array.size _ ≤ 8; rw [← Array.length_toList, e]; exact h8
/-- numbers of signs -/
def Word (ns : List Int) : Prop := ∀ x ∈ ns, 0 ≤ x ∧ x < 26
theorem Word.set {ns : List Int} (w : Word ns) (n : Nat) {v : Int} (h : 0 ≤ v ∧ v < 26) : Word (ns.set n v) := fun x hx => by
  rcases List.mem_or_eq_of_mem_set hx with q | q
  · exact w x q
  · rw [q]; exact h
theorem Word.snoc {ns : List Int} (w : Word ns) {v : Int} (h : 0 ≤ v ∧ v < 26) : Word (ns ++ [v]) := fun x hx => by
  rcases List.mem_append.mp hx with q | q
  · exact w x q
  · rw [List.mem_singleton.mp q]; exact h
end LAW
set_option Elab.async false
set_option linter.all false
set_option maxRecDepth 100000
set_option maxHeartbeats 4000000
/-! TLC3: names. -/
namespace LAW
open PySem PySem.Spec PyProof.Rows L2 TL
theorem p62 {m : Int} (h : m ≤ 4000) : m < 2 ^ 62 := by omega
theorem ones_sum (cs : List Nat) : ((cs.map fun c => (⟨#[c]⟩ : Str)).map (·.length)).sum = cs.length := by
  induction cs with
  | nil => rfl
  | cons c r ih =>
    rw [List.map_cons, List.map_cons, List.sum_cons, ih, List.length_cons]
    show 1 + r.length = _
    omega
theorem Word.nil : Word [] := fun x hx => by cases hx
theorem snoc_map {α β : Type} (f : α → β) (xs : List α) (x : α) : xs.map f ++ [f x] = (xs ++ [x]).map f := by simp
theorem vc_names (ts : List T) (S : Sto) (Q : T → Sto → Prop) (hl : ts.length = 2) (h : spNames ts S Q) : t_Lnames (endT Q) (startT N_Lnames.length ts) S := by
  obtain ⟨D, C, m, rfl, dk, hm1, hm4, q⟩ := h
  rw [show startT N_Lnames.length [T.adr D, T.int m] = [some (T.adr D), some (T.int m), none, none, none, none, none, none] from rfl]
  unfold t_Lnames
  refine seq_cut fun v1 hv1 => ?_
  try simp only [tsNx, tsSeq, tsBrk, tsCt, tsDrop, tsRet, tsRetN, tsIf, tsAsg, tgN, tgsNil, tgsCons, tgTup, tgSub, tsFor, tsWhile, tiSeq, tiRng1, tiRng2, tiZip, tb, tv, tc, tac, tan, ttup, tlst, tq, tand, tor, tnot, tife, tandV, torV, tnotV, tneg, tsl, tno, tpt, tcall, tbi, tml, tml0, tmj, tisi, tlRev, tlRng1, tdisp, tps, tlc, ttYes, bt1, btN, setsT, wipeT, endT, List.getElem?_cons_zero, List.getElem?_cons_succ, List.set_cons_zero, List.set_cons_succ]
  rw [hv1]
  refine seq_cut fun v2 hv2 => ?_
  try simp only [tsNx, tsSeq, tsBrk, tsCt, tsDrop, tsRet, tsRetN, tsIf, tsAsg, tgN, tgsNil, tgsCons, tgTup, tgSub, tsFor, tsWhile, tiSeq, tiRng1, tiRng2, tiZip, tb, tv, tc, tac, tan, ttup, tlst, tq, tand, tor, tnot, tife, tandV, torV, tnotV, tneg, tsl, tno, tpt, tcall, tbi, tml, tml0, tmj, tisi, tlRev, tlRng1, tdisp, tps, tlc, ttYes, bt1, btN, setsT, wipeT, endT, List.getElem?_cons_zero, List.getElem?_cons_succ, List.set_cons_zero, List.set_cons_succ]
  refine ⟨rfl, D, C, 8, rfl, dk, by omega, by omega, fun n S1 n0 n8 f1 => ?_⟩
  refine st_add ?_
  simp only []
  refine ⟨by omega, by omega, fun L hL => ⟨fun i acc S' => i ≤ (1 + n).toNat ∧ ∃ ns : List Int, acc = ns.map T.int ∧ ns.length = i ∧ Word ns ∧ S' L = some (.lst acc) ∧ Fr D C S S' ∧ S L = none, fun S0 u => ?_, ?_⟩⟩
  · exact ⟨Nat.zero_le _, [], rfl, rfl, Word.nil, u.at_, f1.ex fun a o e => u.get (nn hL e) e, f1.none dk hL⟩
  · rintro i acc S' ⟨hi, ns, rfl, hn, hw, hS, fr, hLS⟩
    have hLD : L ≠ D := fun z => by obtain ⟨_, _, _, _, h1, _⟩ := dk; rw [z, h1] at hLS; cases hLS
    have hLC : L ≠ C := fun z => by obtain ⟨_, _, _, _, _, h1, _⟩ := dk; rw [z, h1] at hLS; cases hLS
    refine ⟨hS, trivial, ?_⟩
    cases hx : (rngT 0 (1 + n).toNat)[i]? with
    | some x =>
      obtain ⟨h1, rfl⟩ := rng_some hx
      simp only []
      refine ⟨rfl, D, C, 26, rfl, fr.dk, by omega, by omega, fun v S2 v0 v1' f2 => ?_⟩
      refine ⟨f2.kp _ _ hLD hLC hS, by rw [List.length_map]; exact Nat.lt_of_lt_of_le (show ns.length < 100 by omega) (by decide), fun S5 u => ⟨h1, ns ++ [v], snoc_map _ _ _, by simp [hn], hw.snoc ⟨v0, v1'⟩, u.at_, ?_, hLS⟩⟩
      have f3 := fr.trans f2
      refine ⟨?_, fun a o h1 h2 h => u.get (fun z => by rw [z, hLS] at h; cases h) (f3.kp a o h1 h2 h)⟩
      obtain ⟨ne, a1, a2, a3, a4, a5, a6⟩ := f3.dk
      exact ⟨ne, a1, a2, a3, u.get (Ne.symm hLD) a4, u.get (Ne.symm hLC) a5, a6⟩
    | none =>
      have hin := rng_none hx
      have hi : i = (1 + n).toNat := by omega
      simp only []
      rw [hv2]
      refine seq_cut fun v3 hv3 => ?_
      try simp only [tsNx, tsSeq, tsBrk, tsCt, tsDrop, tsRet, tsRetN, tsIf, tsAsg, tgN, tgsNil, tgsCons, tgTup, tgSub, tsFor, tsWhile, tiSeq, tiRng1, tiRng2, tiZip, tb, tv, tc, tac, tan, ttup, tlst, tq, tand, tor, tnot, tife, tandV, torV, tnotV, tneg, tsl, tno, tpt, tcall, tbi, tml, tml0, tmj, tisi, tlRev, tlRng1, tdisp, tps, tlc, ttYes, bt1, btN, setsT, wipeT, endT, List.getElem?_cons_zero, List.getElem?_cons_succ, List.set_cons_zero, List.set_cons_succ]
      refine st_lenl hS ⟨rfl, D, C, _, rfl, fr.dk, by rw [List.length_map]; omega, by rw [List.length_map]; omega, fun at_ S2 w0 w1 f2 => ?_⟩
      rw [List.length_map] at w1
      have hS2 := f2.kp _ _ hLD hLC hS
      have f3 := fr.trans f2
      clear f2 hS hx
      rw [hv3]
      refine seq_cut fun v4 hv4 => ?_
      try simp only [tsNx, tsSeq, tsBrk, tsCt, tsDrop, tsRet, tsRetN, tsIf, tsAsg, tgN, tgsNil, tgsCons, tgTup, tgSub, tsFor, tsWhile, tiSeq, tiRng1, tiRng2, tiZip, tb, tv, tc, tac, tan, ttup, tlst, tq, tand, tor, tnot, tife, tandV, torV, tnotV, tneg, tsl, tno, tpt, tcall, tbi, tml, tml0, tmj, tisi, tlRev, tlRng1, tdisp, tps, tlc, ttYes, bt1, btN, setsT, wipeT, endT, List.getElem?_cons_zero, List.getElem?_cons_succ, List.set_cons_zero, List.set_cons_succ]
      refine st_nil (nw fun F S3 hF hFF x3 => ?_)
      rw [hv4]
      refine seq_cut fun v5 hv5 => ?_
      try simp only [tsNx, tsSeq, tsBrk, tsCt, tsDrop, tsRet, tsRetN, tsIf, tsAsg, tgN, tgsNil, tgsCons, tgTup, tgSub, tsFor, tsWhile, tiSeq, tiRng1, tiRng2, tiZip, tb, tv, tc, tac, tan, ttup, tlst, tq, tand, tor, tnot, tife, tandV, torV, tnotV, tneg, tsl, tno, tpt, tcall, tbi, tml, tml0, tmj, tisi, tlRev, tlRng1, tdisp, tps, tlc, ttYes, bt1, btN, setsT, wipeT, endT, List.getElem?_cons_zero, List.getElem?_cons_succ, List.set_cons_zero, List.set_cons_succ]
      have hFS : S F = none := f3.none dk hF
      have hFL : F ≠ L := fun z => by rw [z, hS2] at hF; cases hF
      have hFD : F ≠ D := fun z => by obtain ⟨_, _, _, _, h1, _⟩ := dk; rw [z, h1] at hFS; cases hFS
      have hFC : F ≠ C := fun z => by obtain ⟨_, _, _, _, _, h1, _⟩ := dk; rw [z, h1] at hFS; cases hFS
      refine ⟨by omega, by omega, ⟨fun i ρ' S' => i ≤ m.toNat ∧ (∃ k6, ρ' = [some (T.adr D), some (T.int m), some (T.str (Str.ofString "abcdefghijklmnopqrstuvwxyz")), some (T.adr L), some (T.int at_), some (T.adr F), k6, none]) ∧
        ∃ (ns' : List Int) (fs : List Str), ns'.length = ns.length ∧ Word ns' ∧ S' L = some (.lst (ns'.map T.int)) ∧ S' F = some (.lst (fs.map T.str)) ∧ fs.length = i ∧ (∀ x ∈ fs, lower x) ∧ Fr D C S S', ?_, ?_⟩⟩
      · exact ⟨Nat.zero_le _, ⟨none, rfl⟩, ns, [], rfl, hw, x3 _ _ hS2, hFF, rfl, (by intro x hx; cases hx), f3.ex x3⟩
      · rintro j ρ' S' ⟨hj, ⟨k6, rfl⟩, ns', fs, g1, g2, g3, g4, g5, g6, g7⟩
        refine ⟨trivial, ?_⟩
        cases hx : (rngT 0 m.toNat)[j]? with
        | none =>
          have := rng_none hx
          simp only []
          rw [hv5]
          try simp only [tsNx, tsSeq, tsBrk, tsCt, tsDrop, tsRet, tsRetN, tsIf, tsAsg, tgN, tgsNil, tgsCons, tgTup, tgSub, tsFor, tsWhile, tiSeq, tiRng1, tiRng2, tiZip, tb, tv, tc, tac, tan, ttup, tlst, tq, tand, tor, tnot, tife, tandV, torV, tnotV, tneg, tsl, tno, tpt, tcall, tbi, tml, tml0, tmj, tisi, tlRev, tlRng1, tdisp, tps, tlc, ttYes, bt1, btN, setsT, wipeT, endT, List.getElem?_cons_zero, List.getElem?_cons_succ, List.set_cons_zero, List.set_cons_succ]
          exact q F fs S' (by omega) g6 g7 hFS g4
        | some x =>
          obtain ⟨j1, rfl⟩ := rng_some hx
          try simp only [tsNx, tsSeq, tsBrk, tsCt, tsDrop, tsRet, tsRetN, tsIf, tsAsg, tgN, tgsNil, tgsCons, tgTup, tgSub, tsFor, tsWhile, tiSeq, tiRng1, tiRng2, tiZip, tb, tv, tc, tac, tan, ttup, tlst, tq, tand, tor, tnot, tife, tandV, torV, tnotV, tneg, tsl, tno, tpt, tcall, tbi, tml, tml0, tmj, tisi, tlRev, tlRng1, tdisp, tps, tlc, ttYes, bt1, btN, setsT, wipeT, endT, List.getElem?_cons_zero, List.getElem?_cons_succ, List.set_cons_zero, List.set_cons_succ]
          obtain ⟨y, ey, hy, hy2⟩ := atI_ok (xs := ns'.map T.int) w0 (by rw [List.length_map, g1]; exact w1)
          obtain ⟨y', hy', rfl⟩ := List.mem_map.mp hy
          refine st_ixl g3 ey ?_
          refine st_add ?_
          refine st_mod (by omega) ?_
          have em := Int.emod_nonneg (y' + 1) (b := 26) (by omega)
          have em2 := Int.emod_lt_of_pos (y' + 1) (b := 26) (by omega)
          refine st_set g3 (ixN_ok w0 (by rw [List.length_map, g1]; exact w1)) (List.map_set (f := T.int)).symm fun S4 u4 => ?_
          have g4' := u4.get hFL g4
          refine ⟨st_isl g4', trivial, ?_⟩
          try simp only [lstAt_of u4.at_, tsNx, tsSeq, tsBrk, tsCt, tsDrop, tsRet, tsRetN, tsIf, tsAsg, tgN, tgsNil, tgsCons, tgTup, tgSub, tsFor, tsWhile, tiSeq, tiRng1, tiRng2, tiZip, tb, tv, tc, tac, tan, ttup, tlst, tq, tand, tor, tnot, tife, tandV, torV, tnotV, tneg, tsl, tno, tpt, tcall, tbi, tml, tml0, tmj, tisi, tlRev, tlRng1, tdisp, tps, tlc, ttYes, bt1, btN, setsT, wipeT, endT, List.getElem?_cons_zero, List.getElem?_cons_succ, List.set_cons_zero, List.set_cons_succ]
          intro J hJ
          have hJL : J ≠ L := fun z => by rw [z, u4.at_] at hJ; cases hJ
          have hJF : J ≠ F := fun z => by rw [z, g4'] at hJ; cases hJ
          have fr4 : Fr D C S S4 := by
            refine ⟨?_, fun a o h1 h2 h => u4.get (fun z => by rw [z, hLS] at h; cases h) (g7.kp a o h1 h2 h)⟩
            obtain ⟨ne, a1, a2, a3, a4, a5, a6⟩ := g7.dk
            exact ⟨ne, a1, a2, a3, u4.get (Ne.symm hLD) a4, u4.get (Ne.symm hLC) a5, a6⟩
          have hJS : S J = none := fr4.none dk hJ
          have gW : Word (ns'.set at_.toNat ((y' + 1) % 26)) := g2.set _ ⟨em, em2⟩
          have gl : (ns'.set at_.toNat ((y' + 1) % 26)).length = ns.length := by rw [List.length_set, g1]
          generalize hnn : ns'.set at_.toNat ((y' + 1) % 26) = nz at *
          refine ⟨fun i acc S' => i ≤ nz.length ∧ ∃ cs : List Nat, acc = cs.map (fun c => T.str ⟨#[c]⟩) ∧ cs.length = i ∧ (∀ c ∈ cs, 97 ≤ c ∧ c ≤ 122) ∧ S' J = some (.lst acc) ∧ S' L = some (.lst (nz.map T.int)) ∧ S' F = some (.lst (fs.map T.str)) ∧ Fr D C S S', fun S0 u => ?_, ?_⟩
          · exact ⟨Nat.zero_le _, [], rfl, rfl, (by intro c hc; cases hc), u.at_, u.get (Ne.symm hJL) u4.at_, u.get (Ne.symm hJF) g4', fr4.ex fun a o e => u.get (nn hJ e) e⟩
          · rintro i acc S6 ⟨hi6, cs, rfl, c1, c2, c3, c4, c5, c6⟩
            refine ⟨c3, lstAt_of c4, ?_⟩
            cases hx : (nz.map T.int)[i]? with
            | none =>
              have hlen := List.getElem?_eq_none_iff.mp hx
              rw [List.length_map] at hlen
              simp only [oJoin, lstAt_of c3, Option.bind_some]
              have es : (cs.map fun c => T.str ⟨#[c]⟩) = (cs.map fun c => (⟨#[c]⟩ : Str)).map T.str := by rw [List.map_map]; rfl
              rw [es, strsT_map]
              simp only []
              have hcs : cs.length ≤ 8 := by omega
              refine ⟨?_, ?_⟩
              · have e1 := ones_sum cs
                have e2 : (Str.ofString "").length = 0 := by decide +kernel
                rw [e1, e2]; omega
              · refine st_app c5 (by rw [List.length_map]; exact Nat.lt_of_lt_of_le (show fs.length < 100 by omega) (by decide)) fun S7 u7 => ?_
                have hlo : lower (Txt.join (Str.ofString "") (cs.map fun c => (⟨#[c]⟩ : Str))) := join_lower (by omega) hcs c2
                refine ⟨by omega, ⟨_, rfl⟩, nz, fs ++ [Txt.join (Str.ofString "") (cs.map fun c => (⟨#[c]⟩ : Str))], gl, gW, u7.get (Ne.symm hFL) c4, ?_, by simp [g5], ?_, ?_⟩
                · rw [u7.at_, snoc_map]
                · intro x hx
                  rcases List.mem_append.mp hx with z | z
                  · exact g6 x z
                  · rw [List.mem_singleton.mp z]; exact hlo
                · refine ⟨?_, fun a o h1 h2 h => u7.get (fun z => by rw [z, hFS] at h; cases h) (c6.kp a o h1 h2 h)⟩
                  obtain ⟨ne, a1, a2, a3, a4, a5, a6⟩ := c6.dk
                  exact ⟨ne, a1, a2, a3, u7.get (Ne.symm hFD) a4, u7.get (Ne.symm hFC) a5, a6⟩
            | some x =>
              obtain ⟨k1, k2⟩ := List.getElem?_eq_some_iff.mp hx
              rw [List.length_map] at k1
              have hz : x = .int nz[i] := by rw [← k2]; simp
              subst hz
              obtain ⟨w0', w1'⟩ := gW nz[i] (List.getElem_mem _)
              obtain ⟨c, ec, hc1, hc2⟩ := letters_at w0' w1'
              simp only [List.set_cons_zero, List.set_cons_succ, List.getElem?_cons_zero, List.getElem?_cons_succ]
              refine st_ixs (by decide +kernel) ec ?_
              refine ⟨c3, by rw [List.length_map]; exact Nat.lt_of_lt_of_le (show cs.length < 100 by omega) (by decide), fun S8 u8 => ⟨k1, cs ++ [c], by simp, by simp [c1], ?_, u8.at_, u8.get (Ne.symm hJL) c4, u8.get (Ne.symm hJF) c5, ?_⟩⟩
              · intro y hy
                rcases List.mem_append.mp hy with z | z
                · exact c2 y z
                · rw [List.mem_singleton.mp z]; exact ⟨hc1, hc2⟩
              · refine ⟨?_, fun a o h1 h2 h => u8.get (fun z => by rw [z, hJS] at h; cases h) (c6.kp a o h1 h2 h)⟩
                obtain ⟨ne, a1, a2, a3, a4, a5, a6⟩ := c6.dk
                have hJD : J ≠ D := fun z => by obtain ⟨_, _, _, _, h1, _⟩ := dk; rw [z, h1] at hJS; cases hJS
                have hJC : J ≠ C := fun z => by obtain ⟨_, _, _, _, _, h1, _⟩ := dk; rw [z, h1] at hJS; cases hJS
                exact ⟨ne, a1, a2, a3, u8.get (Ne.symm hJD) a4, u8.get (Ne.symm hJC) a5, a6⟩
end LAW
set_option Elab.async false
set_option linter.all false
set_option maxRecDepth 100000
set_option maxHeartbeats 1000000
/-! TLe: evaluation by equations (printed in part by a program). -/
namespace LAW
open PySem PySem.Spec PyProof.Rows L2 TL
section
variable {S : Sto} {Q : T → Sto → Prop} {x y z : T} {xs ys : List T} {a b : Str} {i j : Int} {neg : Bool}
theorem eqG_f' {b : Bool} : eqG false b = b := rfl
theorem ev_t0 : oIx (.tup (x :: xs)) (.int 0) S Q = Q x S := by
  have h : atI (x :: xs) ((0 : Nat) : Int) = some x := atI_nat (by rfl)
  have h : atI (x :: xs) 0 = some x := h
  show (match atI (x :: xs) 0 with | some v => Q v S | none => False) = _
  rw [h]
theorem ev_t1 : oIx (.tup (x :: y :: xs)) (.int 1) S Q = Q y S := by
  have h : atI (x :: y :: xs) ((1 : Nat) : Int) = some y := atI_nat (by rfl)
  have h : atI (x :: y :: xs) 1 = some y := h
  show (match atI (x :: y :: xs) 1 with | some v => Q v S | none => False) = _
  rw [h]
theorem ev_t2 : oIx (.tup (x :: y :: z :: xs)) (.int 2) S Q = Q z S := by
  have h : atI (x :: y :: z :: xs) ((2 : Nat) : Int) = some z := atI_nat (by rfl)
  have h : atI (x :: y :: z :: xs) 2 = some z := h
  show (match atI (x :: y :: z :: xs) 2 with | some v => Q v S | none => False) = _
  rw [h]
theorem ev_in2 {c : Str} : oInG false (.str a) (.tup [.str b, .str c]) S Q = Q (.bl ((b == a) || (c == a))) S := by
  unfold oInG
  simp only [pur_str, purs_cons, purs_nil, depths_cons, depths_nil, depth_str, eqG_f', List.any_cons, List.any_nil, eqT_str, Bool.or_false, Bool.and_true]
  simp
theorem ev_lent : oLen [.tup xs] S Q = Q (.int xs.length) S := rfl
theorem ev_isn {x : T} : oIsG false x .non S Q = Q (.bl (match x with | .non => true | _ => false)) S := rfl
theorem at2_0 : atI [x, y] 0 = some x := by have h : atI [x, y] ((0 : Nat) : Int) = some x := atI_nat (by rfl); exact h
theorem at2_1 : atI [x, y] 1 = some y := by have h : atI [x, y] ((1 : Nat) : Int) = some y := atI_nat (by rfl); exact h
theorem ev_eqs : oEqG neg (.str a) (.str b) S Q = Q (.bl (eqG neg (a == b))) S := by
  unfold oEqG; simp only [pur_str, depth_str, eqT_str, Nat.min_self, Nat.zero_le, true_and]
theorem ev_eqi : oEqG neg (.int i) (.int j) S Q = Q (.bl (eqG neg (i == j))) S := by
  unfold oEqG; simp only [pur_int, depth_int, eqT_int, Nat.min_self, Nat.zero_le, true_and]
theorem ev_intb {b : Bool} : oInt [.bl b] S Q = Q (.int (if b then 1 else 0)) S := rfl
theorem ev_inti : oInt [.int i] S Q = Q (.int i) S := rfl
theorem ev_add : oAdd (.int i) (.int j) S Q = Q (.int (i + j)) S := rfl
theorem ev_sub : oSub (.int i) (.int j) S Q = Q (.int (i - j)) S := rfl
theorem ev_lt : oLt (.int i) (.int j) S Q = Q (.bl (decide (i < j))) S := rfl
theorem ev_gt : oGt (.int i) (.int j) S Q = Q (.bl (decide (j < i))) S := rfl
theorem ev_sl1 : oSl (.tup (x :: xs)) (some 1) none S Q = Q (.tup xs) S := by
  show Q (.tup (cutT (x :: xs) (some 1) none)) S = _
  have h1 : HT.sIx (x :: xs).length 0 (some 1) = 1 := by unfold HT.sIx; simp
  have h2 : HT.sIx (x :: xs).length (x :: xs).length none = xs.length + 1 := by unfold HT.sIx; simp
  unfold cutT
  rw [h1, h2]
  simp
theorem eqG_f {b : Bool} : eqG false b = b := rfl
theorem eqG_t {b : Bool} : eqG true b = !b := rfl
end
theorem s_num_truth : ((Str.ofString "num") == (Str.ofString "truth")) = false := by decide +kernel
theorem s_num_open : ((Str.ofString "num") == (Str.ofString "open")) = false := by decide +kernel
theorem s_num_list : ((Str.ofString "num") == (Str.ofString "list")) = false := by decide +kernel
theorem s_num_pair : ((Str.ofString "num") == (Str.ofString "pair")) = false := by decide +kernel
theorem s_num_either : ((Str.ofString "num") == (Str.ofString "either")) = false := by decide +kernel
theorem s_num_left : ((Str.ofString "num") == (Str.ofString "left")) = false := by decide +kernel
theorem s_num_right : ((Str.ofString "num") == (Str.ofString "right")) = false := by decide +kernel
theorem s_num_thing : ((Str.ofString "num") == (Str.ofString "thing")) = false := by decide +kernel
theorem s_num_fault : ((Str.ofString "num") == (Str.ofString "fault")) = false := by decide +kernel
theorem s_num_worth : ((Str.ofString "num") == (Str.ofString "worth")) = false := by decide +kernel
theorem s_num_table : ((Str.ofString "num") == (Str.ofString "table")) = false := by decide +kernel
theorem s_num_num : ((Str.ofString "num") == (Str.ofString "num")) = true := by decide +kernel
theorem s_truth_num : ((Str.ofString "truth") == (Str.ofString "num")) = false := by decide +kernel
theorem s_truth_open : ((Str.ofString "truth") == (Str.ofString "open")) = false := by decide +kernel
theorem s_truth_list : ((Str.ofString "truth") == (Str.ofString "list")) = false := by decide +kernel
theorem s_truth_pair : ((Str.ofString "truth") == (Str.ofString "pair")) = false := by decide +kernel
theorem s_truth_either : ((Str.ofString "truth") == (Str.ofString "either")) = false := by decide +kernel
theorem s_truth_left : ((Str.ofString "truth") == (Str.ofString "left")) = false := by decide +kernel
theorem s_truth_right : ((Str.ofString "truth") == (Str.ofString "right")) = false := by decide +kernel
theorem s_truth_thing : ((Str.ofString "truth") == (Str.ofString "thing")) = false := by decide +kernel
theorem s_truth_fault : ((Str.ofString "truth") == (Str.ofString "fault")) = false := by decide +kernel
theorem s_truth_worth : ((Str.ofString "truth") == (Str.ofString "worth")) = false := by decide +kernel
theorem s_truth_table : ((Str.ofString "truth") == (Str.ofString "table")) = false := by decide +kernel
theorem s_truth_truth : ((Str.ofString "truth") == (Str.ofString "truth")) = true := by decide +kernel
theorem s_open_num : ((Str.ofString "open") == (Str.ofString "num")) = false := by decide +kernel
theorem s_open_truth : ((Str.ofString "open") == (Str.ofString "truth")) = false := by decide +kernel
theorem s_open_list : ((Str.ofString "open") == (Str.ofString "list")) = false := by decide +kernel
theorem s_open_pair : ((Str.ofString "open") == (Str.ofString "pair")) = false := by decide +kernel
theorem s_open_either : ((Str.ofString "open") == (Str.ofString "either")) = false := by decide +kernel
theorem s_open_left : ((Str.ofString "open") == (Str.ofString "left")) = false := by decide +kernel
theorem s_open_right : ((Str.ofString "open") == (Str.ofString "right")) = false := by decide +kernel
theorem s_open_thing : ((Str.ofString "open") == (Str.ofString "thing")) = false := by decide +kernel
theorem s_open_fault : ((Str.ofString "open") == (Str.ofString "fault")) = false := by decide +kernel
theorem s_open_worth : ((Str.ofString "open") == (Str.ofString "worth")) = false := by decide +kernel
theorem s_open_table : ((Str.ofString "open") == (Str.ofString "table")) = false := by decide +kernel
theorem s_open_open : ((Str.ofString "open") == (Str.ofString "open")) = true := by decide +kernel
theorem s_list_num : ((Str.ofString "list") == (Str.ofString "num")) = false := by decide +kernel
theorem s_list_truth : ((Str.ofString "list") == (Str.ofString "truth")) = false := by decide +kernel
theorem s_list_open : ((Str.ofString "list") == (Str.ofString "open")) = false := by decide +kernel
theorem s_list_pair : ((Str.ofString "list") == (Str.ofString "pair")) = false := by decide +kernel
theorem s_list_either : ((Str.ofString "list") == (Str.ofString "either")) = false := by decide +kernel
theorem s_list_left : ((Str.ofString "list") == (Str.ofString "left")) = false := by decide +kernel
theorem s_list_right : ((Str.ofString "list") == (Str.ofString "right")) = false := by decide +kernel
theorem s_list_thing : ((Str.ofString "list") == (Str.ofString "thing")) = false := by decide +kernel
theorem s_list_fault : ((Str.ofString "list") == (Str.ofString "fault")) = false := by decide +kernel
theorem s_list_worth : ((Str.ofString "list") == (Str.ofString "worth")) = false := by decide +kernel
theorem s_list_table : ((Str.ofString "list") == (Str.ofString "table")) = false := by decide +kernel
theorem s_list_list : ((Str.ofString "list") == (Str.ofString "list")) = true := by decide +kernel
theorem s_pair_num : ((Str.ofString "pair") == (Str.ofString "num")) = false := by decide +kernel
theorem s_pair_truth : ((Str.ofString "pair") == (Str.ofString "truth")) = false := by decide +kernel
theorem s_pair_open : ((Str.ofString "pair") == (Str.ofString "open")) = false := by decide +kernel
theorem s_pair_list : ((Str.ofString "pair") == (Str.ofString "list")) = false := by decide +kernel
theorem s_pair_either : ((Str.ofString "pair") == (Str.ofString "either")) = false := by decide +kernel
theorem s_pair_left : ((Str.ofString "pair") == (Str.ofString "left")) = false := by decide +kernel
theorem s_pair_right : ((Str.ofString "pair") == (Str.ofString "right")) = false := by decide +kernel
theorem s_pair_thing : ((Str.ofString "pair") == (Str.ofString "thing")) = false := by decide +kernel
theorem s_pair_fault : ((Str.ofString "pair") == (Str.ofString "fault")) = false := by decide +kernel
theorem s_pair_worth : ((Str.ofString "pair") == (Str.ofString "worth")) = false := by decide +kernel
theorem s_pair_table : ((Str.ofString "pair") == (Str.ofString "table")) = false := by decide +kernel
theorem s_pair_pair : ((Str.ofString "pair") == (Str.ofString "pair")) = true := by decide +kernel
theorem s_either_num : ((Str.ofString "either") == (Str.ofString "num")) = false := by decide +kernel
theorem s_either_truth : ((Str.ofString "either") == (Str.ofString "truth")) = false := by decide +kernel
theorem s_either_open : ((Str.ofString "either") == (Str.ofString "open")) = false := by decide +kernel
theorem s_either_list : ((Str.ofString "either") == (Str.ofString "list")) = false := by decide +kernel
theorem s_either_pair : ((Str.ofString "either") == (Str.ofString "pair")) = false := by decide +kernel
theorem s_either_left : ((Str.ofString "either") == (Str.ofString "left")) = false := by decide +kernel
theorem s_either_right : ((Str.ofString "either") == (Str.ofString "right")) = false := by decide +kernel
theorem s_either_thing : ((Str.ofString "either") == (Str.ofString "thing")) = false := by decide +kernel
theorem s_either_fault : ((Str.ofString "either") == (Str.ofString "fault")) = false := by decide +kernel
theorem s_either_worth : ((Str.ofString "either") == (Str.ofString "worth")) = false := by decide +kernel
theorem s_either_table : ((Str.ofString "either") == (Str.ofString "table")) = false := by decide +kernel
theorem s_either_either : ((Str.ofString "either") == (Str.ofString "either")) = true := by decide +kernel
theorem s_left_num : ((Str.ofString "left") == (Str.ofString "num")) = false := by decide +kernel
theorem s_left_truth : ((Str.ofString "left") == (Str.ofString "truth")) = false := by decide +kernel
theorem s_left_open : ((Str.ofString "left") == (Str.ofString "open")) = false := by decide +kernel
theorem s_left_list : ((Str.ofString "left") == (Str.ofString "list")) = false := by decide +kernel
theorem s_left_pair : ((Str.ofString "left") == (Str.ofString "pair")) = false := by decide +kernel
theorem s_left_either : ((Str.ofString "left") == (Str.ofString "either")) = false := by decide +kernel
theorem s_left_right : ((Str.ofString "left") == (Str.ofString "right")) = false := by decide +kernel
theorem s_left_thing : ((Str.ofString "left") == (Str.ofString "thing")) = false := by decide +kernel
theorem s_left_fault : ((Str.ofString "left") == (Str.ofString "fault")) = false := by decide +kernel
theorem s_left_worth : ((Str.ofString "left") == (Str.ofString "worth")) = false := by decide +kernel
theorem s_left_table : ((Str.ofString "left") == (Str.ofString "table")) = false := by decide +kernel
theorem s_left_left : ((Str.ofString "left") == (Str.ofString "left")) = true := by decide +kernel
theorem s_right_num : ((Str.ofString "right") == (Str.ofString "num")) = false := by decide +kernel
theorem s_right_truth : ((Str.ofString "right") == (Str.ofString "truth")) = false := by decide +kernel
theorem s_right_open : ((Str.ofString "right") == (Str.ofString "open")) = false := by decide +kernel
theorem s_right_list : ((Str.ofString "right") == (Str.ofString "list")) = false := by decide +kernel
theorem s_right_pair : ((Str.ofString "right") == (Str.ofString "pair")) = false := by decide +kernel
theorem s_right_either : ((Str.ofString "right") == (Str.ofString "either")) = false := by decide +kernel
theorem s_right_left : ((Str.ofString "right") == (Str.ofString "left")) = false := by decide +kernel
theorem s_right_thing : ((Str.ofString "right") == (Str.ofString "thing")) = false := by decide +kernel
theorem s_right_fault : ((Str.ofString "right") == (Str.ofString "fault")) = false := by decide +kernel
theorem s_right_worth : ((Str.ofString "right") == (Str.ofString "worth")) = false := by decide +kernel
theorem s_right_table : ((Str.ofString "right") == (Str.ofString "table")) = false := by decide +kernel
theorem s_right_right : ((Str.ofString "right") == (Str.ofString "right")) = true := by decide +kernel
theorem s_thing_num : ((Str.ofString "thing") == (Str.ofString "num")) = false := by decide +kernel
theorem s_thing_truth : ((Str.ofString "thing") == (Str.ofString "truth")) = false := by decide +kernel
theorem s_thing_open : ((Str.ofString "thing") == (Str.ofString "open")) = false := by decide +kernel
theorem s_thing_list : ((Str.ofString "thing") == (Str.ofString "list")) = false := by decide +kernel
theorem s_thing_pair : ((Str.ofString "thing") == (Str.ofString "pair")) = false := by decide +kernel
theorem s_thing_either : ((Str.ofString "thing") == (Str.ofString "either")) = false := by decide +kernel
theorem s_thing_left : ((Str.ofString "thing") == (Str.ofString "left")) = false := by decide +kernel
theorem s_thing_right : ((Str.ofString "thing") == (Str.ofString "right")) = false := by decide +kernel
theorem s_thing_fault : ((Str.ofString "thing") == (Str.ofString "fault")) = false := by decide +kernel
theorem s_thing_worth : ((Str.ofString "thing") == (Str.ofString "worth")) = false := by decide +kernel
theorem s_thing_table : ((Str.ofString "thing") == (Str.ofString "table")) = false := by decide +kernel
theorem s_thing_thing : ((Str.ofString "thing") == (Str.ofString "thing")) = true := by decide +kernel
theorem s_fault_num : ((Str.ofString "fault") == (Str.ofString "num")) = false := by decide +kernel
theorem s_fault_truth : ((Str.ofString "fault") == (Str.ofString "truth")) = false := by decide +kernel
theorem s_fault_open : ((Str.ofString "fault") == (Str.ofString "open")) = false := by decide +kernel
theorem s_fault_list : ((Str.ofString "fault") == (Str.ofString "list")) = false := by decide +kernel
theorem s_fault_pair : ((Str.ofString "fault") == (Str.ofString "pair")) = false := by decide +kernel
theorem s_fault_either : ((Str.ofString "fault") == (Str.ofString "either")) = false := by decide +kernel
theorem s_fault_left : ((Str.ofString "fault") == (Str.ofString "left")) = false := by decide +kernel
theorem s_fault_right : ((Str.ofString "fault") == (Str.ofString "right")) = false := by decide +kernel
theorem s_fault_thing : ((Str.ofString "fault") == (Str.ofString "thing")) = false := by decide +kernel
theorem s_fault_worth : ((Str.ofString "fault") == (Str.ofString "worth")) = false := by decide +kernel
theorem s_fault_table : ((Str.ofString "fault") == (Str.ofString "table")) = false := by decide +kernel
theorem s_fault_fault : ((Str.ofString "fault") == (Str.ofString "fault")) = true := by decide +kernel
theorem s_worth_num : ((Str.ofString "worth") == (Str.ofString "num")) = false := by decide +kernel
theorem s_worth_truth : ((Str.ofString "worth") == (Str.ofString "truth")) = false := by decide +kernel
theorem s_worth_open : ((Str.ofString "worth") == (Str.ofString "open")) = false := by decide +kernel
theorem s_worth_list : ((Str.ofString "worth") == (Str.ofString "list")) = false := by decide +kernel
theorem s_worth_pair : ((Str.ofString "worth") == (Str.ofString "pair")) = false := by decide +kernel
theorem s_worth_either : ((Str.ofString "worth") == (Str.ofString "either")) = false := by decide +kernel
theorem s_worth_left : ((Str.ofString "worth") == (Str.ofString "left")) = false := by decide +kernel
theorem s_worth_right : ((Str.ofString "worth") == (Str.ofString "right")) = false := by decide +kernel
theorem s_worth_thing : ((Str.ofString "worth") == (Str.ofString "thing")) = false := by decide +kernel
theorem s_worth_fault : ((Str.ofString "worth") == (Str.ofString "fault")) = false := by decide +kernel
theorem s_worth_table : ((Str.ofString "worth") == (Str.ofString "table")) = false := by decide +kernel
theorem s_worth_worth : ((Str.ofString "worth") == (Str.ofString "worth")) = true := by decide +kernel
theorem s_table_num : ((Str.ofString "table") == (Str.ofString "num")) = false := by decide +kernel
theorem s_table_truth : ((Str.ofString "table") == (Str.ofString "truth")) = false := by decide +kernel
theorem s_table_open : ((Str.ofString "table") == (Str.ofString "open")) = false := by decide +kernel
theorem s_table_list : ((Str.ofString "table") == (Str.ofString "list")) = false := by decide +kernel
theorem s_table_pair : ((Str.ofString "table") == (Str.ofString "pair")) = false := by decide +kernel
theorem s_table_either : ((Str.ofString "table") == (Str.ofString "either")) = false := by decide +kernel
theorem s_table_left : ((Str.ofString "table") == (Str.ofString "left")) = false := by decide +kernel
theorem s_table_right : ((Str.ofString "table") == (Str.ofString "right")) = false := by decide +kernel
theorem s_table_thing : ((Str.ofString "table") == (Str.ofString "thing")) = false := by decide +kernel
theorem s_table_fault : ((Str.ofString "table") == (Str.ofString "fault")) = false := by decide +kernel
theorem s_table_worth : ((Str.ofString "table") == (Str.ofString "worth")) = false := by decide +kernel
theorem s_table_table : ((Str.ofString "table") == (Str.ofString "table")) = true := by decide +kernel
end LAW
set_option Elab.async false
set_option linter.all false
set_option maxRecDepth 100000
set_option maxHeartbeats 4000000
/-! TLC4: kinds and worths are drawn. -/
namespace LAW
open PySem PySem.Spec PyProof.Rows L2 TL
theorem Deck.neS {S : Sto} {D C p : Addr} (d : Deck S D C) (h : S p = none) : p ≠ D ∧ p ≠ C := by
  obtain ⟨_, _, _, _, h1, h2, _⟩ := d
  exact ⟨fun z => (by rw [z, h1] at h; cases h), fun z => (by rw [z, h2] at h; cases h)⟩
theorem nested_or (b c : Bool) {X Y : Prop} : ((b || c) = true → X) → (b = false → c = false → Y) → (match b with | true => X | false => match c with | true => X | false => Y) := by
  intro hX hY
  cases b with
  | true => exact hX rfl
  | false =>
    cases c with
    | true => exact hX rfl
    | false => exact hY rfl rfl
theorem eqTs_strs {xs : List Str} (h : 1 ≤ xs.length) : eqTs (xs.map T.str) [] = false := by
  cases xs with
  | nil => simp at h
  | cons x r => exact eqTs_cn
theorem vc_data (n : Nat) (ts : List T) (S : Sto) (Q : T → Sto → Prop) (hl : ts.length = 4) (h : spData (n + 1) ts S Q) : t_Ldata n (endT Q) (startT N_Ldata.length ts) S := by
  obtain ⟨D, C, b, opens, d, sm, rfl, dk, nD, nC, hb, ho1, ho8, hd0, hdn, q⟩ := h
  rw [show startT N_Ldata.length [T.adr D, T.adr b, T.int d, T.bl sm] = [some (T.adr D), some (T.adr b), some (T.int d), some (T.bl sm), none, none] from rfl]
  unfold t_Ldata
  refine seq_cut fun v1 hv1 => ?_
  try simp only [tsNx, tsSeq, tsBrk, tsCt, tsDrop, tsRet, tsRetN, tsIf, tsAsg, tgN, tgsNil, tgsCons, tgTup, tgSub, tsFor, tsWhile, tiSeq, tiRng1, tiRng2, tiZip, tb, tv, tc, tac, tan, ttup, tlst, tq, tand, tor, tnot, tife, tandV, torV, tnotV, tneg, tsl, tno, tpt, tcall, tbi, tml, tml0, tmj, tisi, tlRev, tlRng1, tdisp, tps, tlc, ttYes, bt1, btN, setsT, wipeT, endT, List.getElem?_cons_zero, List.getElem?_cons_succ, List.set_cons_zero, List.set_cons_succ]
  refine st_lst (by simp) (nw fun p S1 hp hpp x1 => ?_)
  try simp only [ev_t0, ev_t1, ev_t2, ev_eqs, ev_eqi, ev_intb, ev_inti, ev_add, ev_sub, ev_lt, ev_gt, ev_sl1, ev_in2, ev_lent, ev_isn, Bool.or_false, Bool.or_true, Bool.false_or, Bool.true_or, eqG_f, eqG_t, kq, Bool.not_true, Bool.not_false, if_true, if_false, ite_true, ite_false, reduceIte, s_num_num, s_num_truth, s_num_open, s_num_list, s_num_pair, s_num_either, s_num_left, s_num_right, s_num_thing, s_num_fault, s_num_worth, s_num_table, s_truth_num, s_truth_truth, s_truth_open, s_truth_list, s_truth_pair, s_truth_either, s_truth_left, s_truth_right, s_truth_thing, s_truth_fault, s_truth_worth, s_truth_table, s_open_num, s_open_truth, s_open_open, s_open_list, s_open_pair, s_open_either, s_open_left, s_open_right, s_open_thing, s_open_fault, s_open_worth, s_open_table, s_list_num, s_list_truth, s_list_open, s_list_list, s_list_pair, s_list_either, s_list_left, s_list_right, s_list_thing, s_list_fault, s_list_worth, s_list_table, s_pair_num, s_pair_truth, s_pair_open, s_pair_list, s_pair_pair, s_pair_either, s_pair_left, s_pair_right, s_pair_thing, s_pair_fault, s_pair_worth, s_pair_table, s_either_num, s_either_truth, s_either_open, s_either_list, s_either_pair, s_either_either, s_either_left, s_either_right, s_either_thing, s_either_fault, s_either_worth, s_either_table, s_left_num, s_left_truth, s_left_open, s_left_list, s_left_pair, s_left_either, s_left_left, s_left_right, s_left_thing, s_left_fault, s_left_worth, s_left_table, s_right_num, s_right_truth, s_right_open, s_right_list, s_right_pair, s_right_either, s_right_left, s_right_right, s_right_thing, s_right_fault, s_right_worth, s_right_table, s_thing_num, s_thing_truth, s_thing_open, s_thing_list, s_thing_pair, s_thing_either, s_thing_left, s_thing_right, s_thing_thing, s_thing_fault, s_thing_worth, s_thing_table, s_fault_num, s_fault_truth, s_fault_open, s_fault_list, s_fault_pair, s_fault_either, s_fault_left, s_fault_right, s_fault_thing, s_fault_fault, s_fault_worth, s_fault_table, s_worth_num, s_worth_truth, s_worth_open, s_worth_list, s_worth_pair, s_worth_either, s_worth_left, s_worth_right, s_worth_thing, s_worth_fault, s_worth_worth, s_worth_table, s_table_num, s_table_truth, s_table_open, s_table_list, s_table_pair, s_table_either, s_table_left, s_table_right, s_table_thing, s_table_fault, s_table_worth, s_table_table]
  obtain ⟨m, em, hm⟩ : ∃ m : Int, atI [T.int 10, T.int 8] (if sm = true then (1 : Int) else 0) = some (.int m) ∧ (m = 10 ∨ m = 8) := by
    cases sm with
    | true => exact ⟨8, at2_1, .inr rfl⟩
    | false => exact ⟨10, at2_0, .inl rfl⟩
  refine st_ixl hpp em ?_
  have f1 : Fr D C S S1 := (Fr.refl dk).ex x1
  refine ⟨rfl, D, C, m, rfl, f1.dk, by omega, by omega, fun way S2 w0 w1 f2' => ?_⟩
  have f2 := f1.trans f2'
  have hb2 := f2.kp _ _ nD nC hb
  clear f2' f1 hpp x1 hp em
  rw [hv1]
  refine seq_cut fun v2 hv2 => ?_
  -- behind the names
  have rest : ∀ S3, Fr D C S S3 → v2 (endT Q) [some (T.adr D), some (T.adr b), some (T.int d), some (T.bl sm), some (T.int way), none] S3 := by
    intro S3 f3
    have hb3 := f3.kp _ _ nD nC hb
    rw [hv2]
    refine seq_cut fun v3 hv3 => ?_
    try simp only [tsNx, tsSeq, tsBrk, tsCt, tsDrop, tsRet, tsRetN, tsIf, tsAsg, tgN, tgsNil, tgsCons, tgTup, tgSub, tsFor, tsWhile, tiSeq, tiRng1, tiRng2, tiZip, tb, tv, tc, tac, tan, ttup, tlst, tq, tand, tor, tnot, tife, tandV, torV, tnotV, tneg, tsl, tno, tpt, tcall, tbi, tml, tml0, tmj, tisi, tlRev, tlRng1, tdisp, tps, tlc, ttYes, bt1, btN, setsT, wipeT, endT, List.getElem?_cons_zero, List.getElem?_cons_succ, List.set_cons_zero, List.set_cons_succ]
    try simp only [ev_t0, ev_t1, ev_t2, ev_eqs, ev_eqi, ev_intb, ev_inti, ev_add, ev_sub, ev_lt, ev_gt, ev_sl1, ev_in2, ev_lent, ev_isn, Bool.or_false, Bool.or_true, Bool.false_or, Bool.true_or, eqG_f, eqG_t, kq, Bool.not_true, Bool.not_false, if_true, if_false, ite_true, ite_false, reduceIte, s_num_num, s_num_truth, s_num_open, s_num_list, s_num_pair, s_num_either, s_num_left, s_num_right, s_num_thing, s_num_fault, s_num_worth, s_num_table, s_truth_num, s_truth_truth, s_truth_open, s_truth_list, s_truth_pair, s_truth_either, s_truth_left, s_truth_right, s_truth_thing, s_truth_fault, s_truth_worth, s_truth_table, s_open_num, s_open_truth, s_open_open, s_open_list, s_open_pair, s_open_either, s_open_left, s_open_right, s_open_thing, s_open_fault, s_open_worth, s_open_table, s_list_num, s_list_truth, s_list_open, s_list_list, s_list_pair, s_list_either, s_list_left, s_list_right, s_list_thing, s_list_fault, s_list_worth, s_list_table, s_pair_num, s_pair_truth, s_pair_open, s_pair_list, s_pair_pair, s_pair_either, s_pair_left, s_pair_right, s_pair_thing, s_pair_fault, s_pair_worth, s_pair_table, s_either_num, s_either_truth, s_either_open, s_either_list, s_either_pair, s_either_either, s_either_left, s_either_right, s_either_thing, s_either_fault, s_either_worth, s_either_table, s_left_num, s_left_truth, s_left_open, s_left_list, s_left_pair, s_left_either, s_left_left, s_left_right, s_left_thing, s_left_fault, s_left_worth, s_left_table, s_right_num, s_right_truth, s_right_open, s_right_list, s_right_pair, s_right_either, s_right_left, s_right_right, s_right_thing, s_right_fault, s_right_worth, s_right_table, s_thing_num, s_thing_truth, s_thing_open, s_thing_list, s_thing_pair, s_thing_either, s_thing_left, s_thing_right, s_thing_thing, s_thing_fault, s_thing_worth, s_thing_table, s_fault_num, s_fault_truth, s_fault_open, s_fault_list, s_fault_pair, s_fault_either, s_fault_left, s_fault_right, s_fault_thing, s_fault_fault, s_fault_worth, s_fault_table, s_worth_num, s_worth_truth, s_worth_open, s_worth_list, s_worth_pair, s_worth_either, s_worth_left, s_worth_right, s_worth_thing, s_worth_fault, s_worth_worth, s_worth_table, s_table_num, s_table_truth, s_table_open, s_table_list, s_table_pair, s_table_either, s_table_left, s_table_right, s_table_thing, s_table_fault, s_table_worth, s_table_table]
    refine nested_or _ _ (fun _ => ?_) (fun e1 e2 => ?_)
    · -- a small kind
      refine ⟨z4000 (by simp), ?_⟩
      refine ⟨z4000 (by simp), z4000 (by simp), ?_⟩
      refine st_lst (by simp) (nw fun p S4 hp hpp x4 => ?_)
      try simp only [ev_t0, ev_t1, ev_t2, ev_eqs, ev_eqi, ev_intb, ev_inti, ev_add, ev_sub, ev_lt, ev_gt, ev_sl1, ev_in2, ev_lent, ev_isn, Bool.or_false, Bool.or_true, Bool.false_or, Bool.true_or, eqG_f, eqG_t, kq, Bool.not_true, Bool.not_false, if_true, if_false, ite_true, ite_false, reduceIte, s_num_num, s_num_truth, s_num_open, s_num_list, s_num_pair, s_num_either, s_num_left, s_num_right, s_num_thing, s_num_fault, s_num_worth, s_num_table, s_truth_num, s_truth_truth, s_truth_open, s_truth_list, s_truth_pair, s_truth_either, s_truth_left, s_truth_right, s_truth_thing, s_truth_fault, s_truth_worth, s_truth_table, s_open_num, s_open_truth, s_open_open, s_open_list, s_open_pair, s_open_either, s_open_left, s_open_right, s_open_thing, s_open_fault, s_open_worth, s_open_table, s_list_num, s_list_truth, s_list_open, s_list_list, s_list_pair, s_list_either, s_list_left, s_list_right, s_list_thing, s_list_fault, s_list_worth, s_list_table, s_pair_num, s_pair_truth, s_pair_open, s_pair_list, s_pair_pair, s_pair_either, s_pair_left, s_pair_right, s_pair_thing, s_pair_fault, s_pair_worth, s_pair_table, s_either_num, s_either_truth, s_either_open, s_either_list, s_either_pair, s_either_either, s_either_left, s_either_right, s_either_thing, s_either_fault, s_either_worth, s_either_table, s_left_num, s_left_truth, s_left_open, s_left_list, s_left_pair, s_left_either, s_left_left, s_left_right, s_left_thing, s_left_fault, s_left_worth, s_left_table, s_right_num, s_right_truth, s_right_open, s_right_list, s_right_pair, s_right_either, s_right_left, s_right_right, s_right_thing, s_right_fault, s_right_worth, s_right_table, s_thing_num, s_thing_truth, s_thing_open, s_thing_list, s_thing_pair, s_thing_either, s_thing_left, s_thing_right, s_thing_thing, s_thing_fault, s_thing_worth, s_thing_table, s_fault_num, s_fault_truth, s_fault_open, s_fault_list, s_fault_pair, s_fault_either, s_fault_left, s_fault_right, s_fault_thing, s_fault_fault, s_fault_worth, s_fault_table, s_worth_num, s_worth_truth, s_worth_open, s_worth_list, s_worth_pair, s_worth_either, s_worth_left, s_worth_right, s_worth_thing, s_worth_fault, s_worth_worth, s_worth_table, s_table_num, s_table_truth, s_table_open, s_table_list, s_table_pair, s_table_either, s_table_left, s_table_right, s_table_thing, s_table_fault, s_table_worth, s_table_table]
      obtain ⟨k, ek, hk⟩ : ∃ k : T, atI [T.tup [T.str "num"], T.tup [T.str "truth"]] (if sm = true then (1 : Int) else 0) = some k ∧ (k = .tup [.str "num"] ∨ k = .tup [.str "truth"]) := by
        cases sm with
        | true => exact ⟨_, at2_1, .inr rfl⟩
        | false => exact ⟨_, at2_0, .inl rfl⟩
      refine st_ixl hpp ek ?_
      have f4 := f3.ex x4
      refine st_lst (by simp) (nw fun p2 S5 hp2 hpp2 x5 => ?_)
      have f5 := f4.ex x5
      obtain ⟨g1, g2⟩ := f4.dk.neS hp2
      refine ⟨rfl, D, C, p2, _, rfl, f5.dk, g1, g2, hpp2, by simp, by simp, fun v S6 hv f6 => ?_⟩
      have f7 := f5.trans f6
      rcases List.mem_cons.mp hv with z | z
      · rw [z]; exact q .tru S6 trivial hd0 f7
      · rw [List.mem_singleton.mp z]
        rcases hk with hk | hk
        · rw [hk]; exact q .num S6 trivial hd0 f7
        · rw [hk]; exact q .tru S6 trivial hd0 f7
    · have d0 : d ≠ 0 := by simpa using e1
      have w6 : ¬ way < 6 := by simpa using e2
      rw [hv3]
      refine seq_cut fun v4 hv4 => ?_
      try simp only [tsNx, tsSeq, tsBrk, tsCt, tsDrop, tsRet, tsRetN, tsIf, tsAsg, tgN, tgsNil, tgsCons, tgTup, tgSub, tsFor, tsWhile, tiSeq, tiRng1, tiRng2, tiZip, tb, tv, tc, tac, tan, ttup, tlst, tq, tand, tor, tnot, tife, tandV, torV, tnotV, tneg, tsl, tno, tpt, tcall, tbi, tml, tml0, tmj, tisi, tlRev, tlRng1, tdisp, tps, tlc, ttYes, bt1, btN, setsT, wipeT, endT, List.getElem?_cons_zero, List.getElem?_cons_succ, List.set_cons_zero, List.set_cons_succ]
      try simp only [ev_t0, ev_t1, ev_t2, ev_eqs, ev_eqi, ev_intb, ev_inti, ev_add, ev_sub, ev_lt, ev_gt, ev_sl1, ev_in2, ev_lent, ev_isn, Bool.or_false, Bool.or_true, Bool.false_or, Bool.true_or, eqG_f, eqG_t, kq, Bool.not_true, Bool.not_false, if_true, if_false, ite_true, ite_false, reduceIte, s_num_num, s_num_truth, s_num_open, s_num_list, s_num_pair, s_num_either, s_num_left, s_num_right, s_num_thing, s_num_fault, s_num_worth, s_num_table, s_truth_num, s_truth_truth, s_truth_open, s_truth_list, s_truth_pair, s_truth_either, s_truth_left, s_truth_right, s_truth_thing, s_truth_fault, s_truth_worth, s_truth_table, s_open_num, s_open_truth, s_open_open, s_open_list, s_open_pair, s_open_either, s_open_left, s_open_right, s_open_thing, s_open_fault, s_open_worth, s_open_table, s_list_num, s_list_truth, s_list_open, s_list_list, s_list_pair, s_list_either, s_list_left, s_list_right, s_list_thing, s_list_fault, s_list_worth, s_list_table, s_pair_num, s_pair_truth, s_pair_open, s_pair_list, s_pair_pair, s_pair_either, s_pair_left, s_pair_right, s_pair_thing, s_pair_fault, s_pair_worth, s_pair_table, s_either_num, s_either_truth, s_either_open, s_either_list, s_either_pair, s_either_either, s_either_left, s_either_right, s_either_thing, s_either_fault, s_either_worth, s_either_table, s_left_num, s_left_truth, s_left_open, s_left_list, s_left_pair, s_left_either, s_left_left, s_left_right, s_left_thing, s_left_fault, s_left_worth, s_left_table, s_right_num, s_right_truth, s_right_open, s_right_list, s_right_pair, s_right_either, s_right_left, s_right_right, s_right_thing, s_right_fault, s_right_worth, s_right_table, s_thing_num, s_thing_truth, s_thing_open, s_thing_list, s_thing_pair, s_thing_either, s_thing_left, s_thing_right, s_thing_thing, s_thing_fault, s_thing_worth, s_thing_table, s_fault_num, s_fault_truth, s_fault_open, s_fault_list, s_fault_pair, s_fault_either, s_fault_left, s_fault_right, s_fault_thing, s_fault_fault, s_fault_worth, s_fault_table, s_worth_num, s_worth_truth, s_worth_open, s_worth_list, s_worth_pair, s_worth_either, s_worth_left, s_worth_right, s_worth_thing, s_worth_fault, s_worth_worth, s_worth_table, s_table_num, s_table_truth, s_table_open, s_table_list, s_table_pair, s_table_either, s_table_left, s_table_right, s_table_thing, s_table_fault, s_table_worth, s_table_table]
      cases e3 : decide (7 < way) with
      | true =>
        simp only []
        refine ⟨rfl, D, C, b, opens, d - 1, sm, rfl, f3.dk, nD, nC, hb3, ho1, ho8, by omega, by omega, fun kd S4 k1 k2 f4 => ?_⟩
        refine ⟨z4000 (by simp), ?_⟩
        exact q (.lst kd) S4 k1 (by show ((kd.h + 1 : Nat) : Int) ≤ d; omega) (f3.trans f4)
      | false =>
        simp only []
        rw [hv4]
        refine seq_cut fun v5 hv5 => ?_
        try simp only [tsNx, tsSeq, tsBrk, tsCt, tsDrop, tsRet, tsRetN, tsIf, tsAsg, tgN, tgsNil, tgsCons, tgTup, tgSub, tsFor, tsWhile, tiSeq, tiRng1, tiRng2, tiZip, tb, tv, tc, tac, tan, ttup, tlst, tq, tand, tor, tnot, tife, tandV, torV, tnotV, tneg, tsl, tno, tpt, tcall, tbi, tml, tml0, tmj, tisi, tlRev, tlRng1, tdisp, tps, tlc, ttYes, bt1, btN, setsT, wipeT, endT, List.getElem?_cons_zero, List.getElem?_cons_succ, List.set_cons_zero, List.set_cons_succ]
        try simp only [ev_t0, ev_t1, ev_t2, ev_eqs, ev_eqi, ev_intb, ev_inti, ev_add, ev_sub, ev_lt, ev_gt, ev_sl1, ev_in2, ev_lent, ev_isn, Bool.or_false, Bool.or_true, Bool.false_or, Bool.true_or, eqG_f, eqG_t, kq, Bool.not_true, Bool.not_false, if_true, if_false, ite_true, ite_false, reduceIte, s_num_num, s_num_truth, s_num_open, s_num_list, s_num_pair, s_num_either, s_num_left, s_num_right, s_num_thing, s_num_fault, s_num_worth, s_num_table, s_truth_num, s_truth_truth, s_truth_open, s_truth_list, s_truth_pair, s_truth_either, s_truth_left, s_truth_right, s_truth_thing, s_truth_fault, s_truth_worth, s_truth_table, s_open_num, s_open_truth, s_open_open, s_open_list, s_open_pair, s_open_either, s_open_left, s_open_right, s_open_thing, s_open_fault, s_open_worth, s_open_table, s_list_num, s_list_truth, s_list_open, s_list_list, s_list_pair, s_list_either, s_list_left, s_list_right, s_list_thing, s_list_fault, s_list_worth, s_list_table, s_pair_num, s_pair_truth, s_pair_open, s_pair_list, s_pair_pair, s_pair_either, s_pair_left, s_pair_right, s_pair_thing, s_pair_fault, s_pair_worth, s_pair_table, s_either_num, s_either_truth, s_either_open, s_either_list, s_either_pair, s_either_either, s_either_left, s_either_right, s_either_thing, s_either_fault, s_either_worth, s_either_table, s_left_num, s_left_truth, s_left_open, s_left_list, s_left_pair, s_left_either, s_left_left, s_left_right, s_left_thing, s_left_fault, s_left_worth, s_left_table, s_right_num, s_right_truth, s_right_open, s_right_list, s_right_pair, s_right_either, s_right_left, s_right_right, s_right_thing, s_right_fault, s_right_worth, s_right_table, s_thing_num, s_thing_truth, s_thing_open, s_thing_list, s_thing_pair, s_thing_either, s_thing_left, s_thing_right, s_thing_thing, s_thing_fault, s_thing_worth, s_thing_table, s_fault_num, s_fault_truth, s_fault_open, s_fault_list, s_fault_pair, s_fault_either, s_fault_left, s_fault_right, s_fault_thing, s_fault_fault, s_fault_worth, s_fault_table, s_worth_num, s_worth_truth, s_worth_open, s_worth_list, s_worth_pair, s_worth_either, s_worth_left, s_worth_right, s_worth_thing, s_worth_fault, s_worth_worth, s_worth_table, s_table_num, s_table_truth, s_table_open, s_table_list, s_table_pair, s_table_either, s_table_left, s_table_right, s_table_thing, s_table_fault, s_table_worth, s_table_table]
        refine ⟨rfl, D, C, b, opens, d - 1, sm, rfl, f3.dk, nD, nC, hb3, ho1, ho8, by omega, by omega, fun kd S4 k1 k2 f4 => ?_⟩
        have f5 := f3.trans f4
        have hb5 := f5.kp _ _ nD nC hb
        rw [hv5]
        try simp only [tsNx, tsSeq, tsBrk, tsCt, tsDrop, tsRet, tsRetN, tsIf, tsAsg, tgN, tgsNil, tgsCons, tgTup, tgSub, tsFor, tsWhile, tiSeq, tiRng1, tiRng2, tiZip, tb, tv, tc, tac, tan, ttup, tlst, tq, tand, tor, tnot, tife, tandV, torV, tnotV, tneg, tsl, tno, tpt, tcall, tbi, tml, tml0, tmj, tisi, tlRev, tlRng1, tdisp, tps, tlc, ttYes, bt1, btN, setsT, wipeT, endT, List.getElem?_cons_zero, List.getElem?_cons_succ, List.set_cons_zero, List.set_cons_succ]
        refine st_lst (by simp) (nw fun p S5 hp hpp x5 => ?_)
        have f6 := f5.ex x5
        have hb6 := f6.kp _ _ nD nC hb
        try simp only [ev_t0, ev_t1, ev_t2, ev_eqs, ev_eqi, ev_intb, ev_inti, ev_add, ev_sub, ev_lt, ev_gt, ev_sl1, ev_in2, ev_lent, ev_isn, Bool.or_false, Bool.or_true, Bool.false_or, Bool.true_or, eqG_f, eqG_t, kq, Bool.not_true, Bool.not_false, if_true, if_false, ite_true, ite_false, reduceIte, s_num_num, s_num_truth, s_num_open, s_num_list, s_num_pair, s_num_either, s_num_left, s_num_right, s_num_thing, s_num_fault, s_num_worth, s_num_table, s_truth_num, s_truth_truth, s_truth_open, s_truth_list, s_truth_pair, s_truth_either, s_truth_left, s_truth_right, s_truth_thing, s_truth_fault, s_truth_worth, s_truth_table, s_open_num, s_open_truth, s_open_open, s_open_list, s_open_pair, s_open_either, s_open_left, s_open_right, s_open_thing, s_open_fault, s_open_worth, s_open_table, s_list_num, s_list_truth, s_list_open, s_list_list, s_list_pair, s_list_either, s_list_left, s_list_right, s_list_thing, s_list_fault, s_list_worth, s_list_table, s_pair_num, s_pair_truth, s_pair_open, s_pair_list, s_pair_pair, s_pair_either, s_pair_left, s_pair_right, s_pair_thing, s_pair_fault, s_pair_worth, s_pair_table, s_either_num, s_either_truth, s_either_open, s_either_list, s_either_pair, s_either_either, s_either_left, s_either_right, s_either_thing, s_either_fault, s_either_worth, s_either_table, s_left_num, s_left_truth, s_left_open, s_left_list, s_left_pair, s_left_either, s_left_left, s_left_right, s_left_thing, s_left_fault, s_left_worth, s_left_table, s_right_num, s_right_truth, s_right_open, s_right_list, s_right_pair, s_right_either, s_right_left, s_right_right, s_right_thing, s_right_fault, s_right_worth, s_right_table, s_thing_num, s_thing_truth, s_thing_open, s_thing_list, s_thing_pair, s_thing_either, s_thing_left, s_thing_right, s_thing_thing, s_thing_fault, s_thing_worth, s_thing_table, s_fault_num, s_fault_truth, s_fault_open, s_fault_list, s_fault_pair, s_fault_either, s_fault_left, s_fault_right, s_fault_thing, s_fault_fault, s_fault_worth, s_fault_table, s_worth_num, s_worth_truth, s_worth_open, s_worth_list, s_worth_pair, s_worth_either, s_worth_left, s_worth_right, s_worth_thing, s_worth_fault, s_worth_worth, s_worth_table, s_table_num, s_table_truth, s_table_open, s_table_list, s_table_pair, s_table_either, s_table_left, s_table_right, s_table_thing, s_table_fault, s_table_worth, s_table_table]
        have h3 : ¬ 7 < way := by simpa using e3
        obtain ⟨s, es, hs⟩ : ∃ s : T, atI [T.str "pair", T.str "either"] (way - 6) = some s ∧ (s = .str "pair" ∨ s = .str "either") := by
          obtain ⟨x, ex, hx, _⟩ := atI_ok (xs := [T.str "pair", T.str "either"]) (i := way - 6) (by omega) (by simp; omega)
          exact ⟨x, ex, by simpa using hx⟩
        refine st_ixl hpp es ?_
        refine ⟨rfl, D, C, b, opens, d - 1, sm, rfl, f6.dk, nD, nC, hb6, ho1, ho8, by omega, by omega, fun kd2 S7 k3 k4 f7 => ?_⟩
        refine ⟨z4000 (by simp), ?_⟩
        rcases hs with rfl | rfl
        · exact q (.pair kd kd2) S7 ⟨k1, k3⟩ (by show ((max kd.h kd2.h + 1 : Nat) : Int) ≤ d; omega) (f6.trans f7)
        · exact q (.eith kd kd2) S7 ⟨k1, k3⟩ (by show ((max kd.h kd2.h + 1 : Nat) : Int) ≤ d; omega) (f6.trans f7)
  try simp only [tsNx, tsSeq, tsBrk, tsCt, tsDrop, tsRet, tsRetN, tsIf, tsAsg, tgN, tgsNil, tgsCons, tgTup, tgSub, tsFor, tsWhile, tiSeq, tiRng1, tiRng2, tiZip, tb, tv, tc, tac, tan, ttup, tlst, tq, tand, tor, tnot, tife, tandV, torV, tnotV, tneg, tsl, tno, tpt, tcall, tbi, tml, tml0, tmj, tisi, tlRev, tlRng1, tdisp, tps, tlc, ttYes, bt1, btN, setsT, wipeT, endT, List.getElem?_cons_zero, List.getElem?_cons_succ, List.set_cons_zero, List.set_cons_succ]
  try simp only [ev_t0, ev_t1, ev_t2, ev_eqs, ev_eqi, ev_intb, ev_inti, ev_add, ev_sub, ev_lt, ev_gt, ev_sl1, ev_in2, ev_lent, ev_isn, Bool.or_false, Bool.or_true, Bool.false_or, Bool.true_or, eqG_f, eqG_t, kq, Bool.not_true, Bool.not_false, if_true, if_false, ite_true, ite_false, reduceIte, s_num_num, s_num_truth, s_num_open, s_num_list, s_num_pair, s_num_either, s_num_left, s_num_right, s_num_thing, s_num_fault, s_num_worth, s_num_table, s_truth_num, s_truth_truth, s_truth_open, s_truth_list, s_truth_pair, s_truth_either, s_truth_left, s_truth_right, s_truth_thing, s_truth_fault, s_truth_worth, s_truth_table, s_open_num, s_open_truth, s_open_open, s_open_list, s_open_pair, s_open_either, s_open_left, s_open_right, s_open_thing, s_open_fault, s_open_worth, s_open_table, s_list_num, s_list_truth, s_list_open, s_list_list, s_list_pair, s_list_either, s_list_left, s_list_right, s_list_thing, s_list_fault, s_list_worth, s_list_table, s_pair_num, s_pair_truth, s_pair_open, s_pair_list, s_pair_pair, s_pair_either, s_pair_left, s_pair_right, s_pair_thing, s_pair_fault, s_pair_worth, s_pair_table, s_either_num, s_either_truth, s_either_open, s_either_list, s_either_pair, s_either_either, s_either_left, s_either_right, s_either_thing, s_either_fault, s_either_worth, s_either_table, s_left_num, s_left_truth, s_left_open, s_left_list, s_left_pair, s_left_either, s_left_left, s_left_right, s_left_thing, s_left_fault, s_left_worth, s_left_table, s_right_num, s_right_truth, s_right_open, s_right_list, s_right_pair, s_right_either, s_right_left, s_right_right, s_right_thing, s_right_fault, s_right_worth, s_right_table, s_thing_num, s_thing_truth, s_thing_open, s_thing_list, s_thing_pair, s_thing_either, s_thing_left, s_thing_right, s_thing_thing, s_thing_fault, s_thing_worth, s_thing_table, s_fault_num, s_fault_truth, s_fault_open, s_fault_list, s_fault_pair, s_fault_either, s_fault_left, s_fault_right, s_fault_thing, s_fault_fault, s_fault_worth, s_fault_table, s_worth_num, s_worth_truth, s_worth_open, s_worth_list, s_worth_pair, s_worth_either, s_worth_left, s_worth_right, s_worth_thing, s_worth_fault, s_worth_worth, s_worth_table, s_table_num, s_table_truth, s_table_open, s_table_list, s_table_pair, s_table_either, s_table_left, s_table_right, s_table_thing, s_table_fault, s_table_worth, s_table_table]
  cases e0 : decide (way < 4) with
  | false =>
    simp only []
    exact rest S2 f2
  | true =>
    simp only []
    refine st_nil (nw fun p S3 hp hpp x3 => ?_)
    have f3 := f2.ex x3
    refine st_eql (x3 _ _ hb2) hpp (purs_strs _) purs_nil (by rw [depths_nil]; simp) ?_
    rw [eqTs_strs ho1]
    try simp only [ev_t0, ev_t1, ev_t2, ev_eqs, ev_eqi, ev_intb, ev_inti, ev_add, ev_sub, ev_lt, ev_gt, ev_sl1, ev_in2, ev_lent, ev_isn, Bool.or_false, Bool.or_true, Bool.false_or, Bool.true_or, eqG_f, eqG_t, kq, Bool.not_true, Bool.not_false, if_true, if_false, ite_true, ite_false, reduceIte, s_num_num, s_num_truth, s_num_open, s_num_list, s_num_pair, s_num_either, s_num_left, s_num_right, s_num_thing, s_num_fault, s_num_worth, s_num_table, s_truth_num, s_truth_truth, s_truth_open, s_truth_list, s_truth_pair, s_truth_either, s_truth_left, s_truth_right, s_truth_thing, s_truth_fault, s_truth_worth, s_truth_table, s_open_num, s_open_truth, s_open_open, s_open_list, s_open_pair, s_open_either, s_open_left, s_open_right, s_open_thing, s_open_fault, s_open_worth, s_open_table, s_list_num, s_list_truth, s_list_open, s_list_list, s_list_pair, s_list_either, s_list_left, s_list_right, s_list_thing, s_list_fault, s_list_worth, s_list_table, s_pair_num, s_pair_truth, s_pair_open, s_pair_list, s_pair_pair, s_pair_either, s_pair_left, s_pair_right, s_pair_thing, s_pair_fault, s_pair_worth, s_pair_table, s_either_num, s_either_truth, s_either_open, s_either_list, s_either_pair, s_either_either, s_either_left, s_either_right, s_either_thing, s_either_fault, s_either_worth, s_either_table, s_left_num, s_left_truth, s_left_open, s_left_list, s_left_pair, s_left_either, s_left_left, s_left_right, s_left_thing, s_left_fault, s_left_worth, s_left_table, s_right_num, s_right_truth, s_right_open, s_right_list, s_right_pair, s_right_either, s_right_left, s_right_right, s_right_thing, s_right_fault, s_right_worth, s_right_table, s_thing_num, s_thing_truth, s_thing_open, s_thing_list, s_thing_pair, s_thing_either, s_thing_left, s_thing_right, s_thing_thing, s_thing_fault, s_thing_worth, s_thing_table, s_fault_num, s_fault_truth, s_fault_open, s_fault_list, s_fault_pair, s_fault_either, s_fault_left, s_fault_right, s_fault_thing, s_fault_fault, s_fault_worth, s_fault_table, s_worth_num, s_worth_truth, s_worth_open, s_worth_list, s_worth_pair, s_worth_either, s_worth_left, s_worth_right, s_worth_thing, s_worth_fault, s_worth_worth, s_worth_table, s_table_num, s_table_truth, s_table_open, s_table_list, s_table_pair, s_table_either, s_table_left, s_table_right, s_table_thing, s_table_fault, s_table_worth, s_table_table]
    refine ⟨rfl, D, C, b, opens.map T.str, rfl, f3.dk, nD, nC, x3 _ _ hb2, by simpa using ho1, by rw [List.length_map]; omega, fun v S4 hv f4 => ?_⟩
    obtain ⟨x, hx, rfl⟩ := List.mem_map.mp hv
    refine ⟨z4000 (by simp), ?_⟩
    exact q (.opn x) S4 hx hd0 (f3.trans f4)
end LAW
set_option Elab.async false
set_option linter.all false
set_option maxRecDepth 100000
set_option maxHeartbeats 4000000
/-! TLC5: worths are drawn. -/
namespace LAW
open PySem PySem.Spec PyProof.Rows L2 TL
theorem wts_map : ∀ ws : List W, W.ts ws = ws.map W.t
  | [] => by unfold W.ts; rfl
  | w :: ws => by conv => lhs; unfold W.ts
                  rw [wts_map ws]; rfl
theorem w_num {n : Int} : W.t (.num n) = .int n := by unfold W.t; rfl
theorem w_tru {n : Bool} : W.t (.tru n) = .bl n := by unfold W.t; rfl
theorem w_thing {x : Str} {k : Nat} : W.t (.thing x k) = .tup [.str "thing", .str x, .int k] := by unfold W.t; rfl
theorem w_lst {ws : List W} : W.t (.lst ws) = .tup [.str "list", .tup (ws.map W.t)] := by rw [← wts_map]; conv => lhs; unfold W.t
theorem w_left {w : W} : W.t (.left w) = .tup [.str "left", w.t] := by conv => lhs; unfold W.t
theorem w_right {w : W} : W.t (.right w) = .tup [.str "right", w.t] := by conv => lhs; unfold W.t
theorem w_pair {a b : W} : W.t (.pair a b) = .tup [.str "pair", a.t, b.t] := by conv => lhs; unfold W.t
theorem Sizes.fr {S S' : Sto} {D C z : Addr} {sz : Str → Nat} {names : List Str} (s : Sizes S z sz names) (f : Fr D C S S') (n1 : z ≠ D) (n2 : z ≠ C) : Sizes S' z sz names := by
  obtain ⟨kvs, h1, h2⟩ := s
  exact ⟨kvs, f.kp _ _ n1 n2 h1, h2⟩
theorem one0 : (1 : Int) + 0 = 1 := rfl
theorem one1 : (1 : Int) + 1 = 2 := rfl
theorem p9 : ((10 : Int) ^ (9 : Int).toNat) = 1000000000 := by decide
theorem vc_worth (n : Nat) (ts : List T) (S : Sto) (Q : T → Sto → Prop) (hl : ts.length = 4) (h : spWorth (n + 1) ts S Q) : t_Lworth n (endT Q) (startT N_Lworth.length ts) S := by
  obtain ⟨D, C, z, sz, names, kd, m, rfl, dk, nD, nC, hs, hok, hh, hm0, hm12, q⟩ := h
  rw [show startT N_Lworth.length [T.adr D, Kd.t kd, T.adr z, T.int m] = [some (T.adr D), some (Kd.t kd), some (T.adr z), some (T.int m), none, none, none, none, none] from rfl]
  cases kd with
  | opn x =>
    try simp only [t_Lworth, Kd.t, tsNx, tsSeq, tsBrk, tsCt, tsDrop, tsRet, tsRetN, tsIf, tsAsg, tgN, tgsNil, tgsCons, tgTup, tgSub, tsFor, tsWhile, tiSeq, tiRng1, tiRng2, tiZip, tb, tv, tc, tac, tan, ttup, tlst, tq, tand, tor, tnot, tife, tandV, torV, tnotV, tneg, tsl, tno, tpt, tcall, tbi, tml, tml0, tmj, tisi, tlRev, tlRng1, tdisp, tps, tlc, ttYes, bt1, btN, setsT, wipeT, endT, List.getElem?_cons_zero, List.getElem?_cons_succ, List.set_cons_zero, List.set_cons_succ]
    try simp only [ev_t0, ev_t1, ev_t2, ev_eqs, ev_eqi, ev_intb, ev_inti, ev_add, ev_sub, ev_lt, ev_gt, ev_sl1, ev_in2, ev_lent, ev_isn, Bool.or_false, Bool.or_true, Bool.false_or, Bool.true_or, eqG_f, eqG_t, kq, Bool.not_true, Bool.not_false, if_true, if_false, ite_true, ite_false, reduceIte, s_num_num, s_num_truth, s_num_open, s_num_list, s_num_pair, s_num_either, s_num_left, s_num_right, s_num_thing, s_num_fault, s_num_worth, s_num_table, s_truth_num, s_truth_truth, s_truth_open, s_truth_list, s_truth_pair, s_truth_either, s_truth_left, s_truth_right, s_truth_thing, s_truth_fault, s_truth_worth, s_truth_table, s_open_num, s_open_truth, s_open_open, s_open_list, s_open_pair, s_open_either, s_open_left, s_open_right, s_open_thing, s_open_fault, s_open_worth, s_open_table, s_list_num, s_list_truth, s_list_open, s_list_list, s_list_pair, s_list_either, s_list_left, s_list_right, s_list_thing, s_list_fault, s_list_worth, s_list_table, s_pair_num, s_pair_truth, s_pair_open, s_pair_list, s_pair_pair, s_pair_either, s_pair_left, s_pair_right, s_pair_thing, s_pair_fault, s_pair_worth, s_pair_table, s_either_num, s_either_truth, s_either_open, s_either_list, s_either_pair, s_either_either, s_either_left, s_either_right, s_either_thing, s_either_fault, s_either_worth, s_either_table, s_left_num, s_left_truth, s_left_open, s_left_list, s_left_pair, s_left_either, s_left_left, s_left_right, s_left_thing, s_left_fault, s_left_worth, s_left_table, s_right_num, s_right_truth, s_right_open, s_right_list, s_right_pair, s_right_either, s_right_left, s_right_right, s_right_thing, s_right_fault, s_right_worth, s_right_table, s_thing_num, s_thing_truth, s_thing_open, s_thing_list, s_thing_pair, s_thing_either, s_thing_left, s_thing_right, s_thing_thing, s_thing_fault, s_thing_worth, s_thing_table, s_fault_num, s_fault_truth, s_fault_open, s_fault_list, s_fault_pair, s_fault_either, s_fault_left, s_fault_right, s_fault_thing, s_fault_fault, s_fault_worth, s_fault_table, s_worth_num, s_worth_truth, s_worth_open, s_worth_list, s_worth_pair, s_worth_either, s_worth_left, s_worth_right, s_worth_thing, s_worth_fault, s_worth_worth, s_worth_table, s_table_num, s_table_truth, s_table_open, s_table_list, s_table_pair, s_table_either, s_table_left, s_table_right, s_table_thing, s_table_fault, s_table_worth, s_table_table]
    obtain ⟨kvs, hz, hk⟩ := id hs
    obtain ⟨e1, e2, e3⟩ := hk x hok
    refine st_ixd hz rfl e1 ?_
    refine ⟨rfl, D, C, _, rfl, dk, by omega, by omega, fun v S1 v0 v1 f1 => ⟨z4000 (by simp), ?_⟩⟩
    have ev : v = ((v.toNat : Nat) : Int) := by omega
    have := q (.thing x v.toNat) S1 ⟨rfl, by omega⟩ f1
    rw [w_thing, ← ev] at this
    exact this
  | num =>
    try simp only [t_Lworth, Kd.t, tsNx, tsSeq, tsBrk, tsCt, tsDrop, tsRet, tsRetN, tsIf, tsAsg, tgN, tgsNil, tgsCons, tgTup, tgSub, tsFor, tsWhile, tiSeq, tiRng1, tiRng2, tiZip, tb, tv, tc, tac, tan, ttup, tlst, tq, tand, tor, tnot, tife, tandV, torV, tnotV, tneg, tsl, tno, tpt, tcall, tbi, tml, tml0, tmj, tisi, tlRev, tlRng1, tdisp, tps, tlc, ttYes, bt1, btN, setsT, wipeT, endT, List.getElem?_cons_zero, List.getElem?_cons_succ, List.set_cons_zero, List.set_cons_succ]
    try simp only [ev_t0, ev_t1, ev_t2, ev_eqs, ev_eqi, ev_intb, ev_inti, ev_add, ev_sub, ev_lt, ev_gt, ev_sl1, ev_in2, ev_lent, ev_isn, Bool.or_false, Bool.or_true, Bool.false_or, Bool.true_or, eqG_f, eqG_t, kq, Bool.not_true, Bool.not_false, if_true, if_false, ite_true, ite_false, reduceIte, s_num_num, s_num_truth, s_num_open, s_num_list, s_num_pair, s_num_either, s_num_left, s_num_right, s_num_thing, s_num_fault, s_num_worth, s_num_table, s_truth_num, s_truth_truth, s_truth_open, s_truth_list, s_truth_pair, s_truth_either, s_truth_left, s_truth_right, s_truth_thing, s_truth_fault, s_truth_worth, s_truth_table, s_open_num, s_open_truth, s_open_open, s_open_list, s_open_pair, s_open_either, s_open_left, s_open_right, s_open_thing, s_open_fault, s_open_worth, s_open_table, s_list_num, s_list_truth, s_list_open, s_list_list, s_list_pair, s_list_either, s_list_left, s_list_right, s_list_thing, s_list_fault, s_list_worth, s_list_table, s_pair_num, s_pair_truth, s_pair_open, s_pair_list, s_pair_pair, s_pair_either, s_pair_left, s_pair_right, s_pair_thing, s_pair_fault, s_pair_worth, s_pair_table, s_either_num, s_either_truth, s_either_open, s_either_list, s_either_pair, s_either_either, s_either_left, s_either_right, s_either_thing, s_either_fault, s_either_worth, s_either_table, s_left_num, s_left_truth, s_left_open, s_left_list, s_left_pair, s_left_either, s_left_left, s_left_right, s_left_thing, s_left_fault, s_left_worth, s_left_table, s_right_num, s_right_truth, s_right_open, s_right_list, s_right_pair, s_right_either, s_right_left, s_right_right, s_right_thing, s_right_fault, s_right_worth, s_right_table, s_thing_num, s_thing_truth, s_thing_open, s_thing_list, s_thing_pair, s_thing_either, s_thing_left, s_thing_right, s_thing_thing, s_thing_fault, s_thing_worth, s_thing_table, s_fault_num, s_fault_truth, s_fault_open, s_fault_list, s_fault_pair, s_fault_either, s_fault_left, s_fault_right, s_fault_thing, s_fault_fault, s_fault_worth, s_fault_table, s_worth_num, s_worth_truth, s_worth_open, s_worth_list, s_worth_pair, s_worth_either, s_worth_left, s_worth_right, s_worth_thing, s_worth_fault, s_worth_worth, s_worth_table, s_table_num, s_table_truth, s_table_open, s_table_list, s_table_pair, s_table_either, s_table_left, s_table_right, s_table_thing, s_table_fault, s_table_worth, s_table_table]
    refine st_pow ⟨by decide, by decide, by decide⟩ ?_
    rw [p9]
    try simp only [ev_t0, ev_t1, ev_t2, ev_eqs, ev_eqi, ev_intb, ev_inti, ev_add, ev_sub, ev_lt, ev_gt, ev_sl1, ev_in2, ev_lent, ev_isn, Bool.or_false, Bool.or_true, Bool.false_or, Bool.true_or, eqG_f, eqG_t, kq, Bool.not_true, Bool.not_false, if_true, if_false, ite_true, ite_false, reduceIte, s_num_num, s_num_truth, s_num_open, s_num_list, s_num_pair, s_num_either, s_num_left, s_num_right, s_num_thing, s_num_fault, s_num_worth, s_num_table, s_truth_num, s_truth_truth, s_truth_open, s_truth_list, s_truth_pair, s_truth_either, s_truth_left, s_truth_right, s_truth_thing, s_truth_fault, s_truth_worth, s_truth_table, s_open_num, s_open_truth, s_open_open, s_open_list, s_open_pair, s_open_either, s_open_left, s_open_right, s_open_thing, s_open_fault, s_open_worth, s_open_table, s_list_num, s_list_truth, s_list_open, s_list_list, s_list_pair, s_list_either, s_list_left, s_list_right, s_list_thing, s_list_fault, s_list_worth, s_list_table, s_pair_num, s_pair_truth, s_pair_open, s_pair_list, s_pair_pair, s_pair_either, s_pair_left, s_pair_right, s_pair_thing, s_pair_fault, s_pair_worth, s_pair_table, s_either_num, s_either_truth, s_either_open, s_either_list, s_either_pair, s_either_either, s_either_left, s_either_right, s_either_thing, s_either_fault, s_either_worth, s_either_table, s_left_num, s_left_truth, s_left_open, s_left_list, s_left_pair, s_left_either, s_left_left, s_left_right, s_left_thing, s_left_fault, s_left_worth, s_left_table, s_right_num, s_right_truth, s_right_open, s_right_list, s_right_pair, s_right_either, s_right_left, s_right_right, s_right_thing, s_right_fault, s_right_worth, s_right_table, s_thing_num, s_thing_truth, s_thing_open, s_thing_list, s_thing_pair, s_thing_either, s_thing_left, s_thing_right, s_thing_thing, s_thing_fault, s_thing_worth, s_thing_table, s_fault_num, s_fault_truth, s_fault_open, s_fault_list, s_fault_pair, s_fault_either, s_fault_left, s_fault_right, s_fault_thing, s_fault_fault, s_fault_worth, s_fault_table, s_worth_num, s_worth_truth, s_worth_open, s_worth_list, s_worth_pair, s_worth_either, s_worth_left, s_worth_right, s_worth_thing, s_worth_fault, s_worth_worth, s_worth_table, s_table_num, s_table_truth, s_table_open, s_table_list, s_table_pair, s_table_either, s_table_left, s_table_right, s_table_thing, s_table_fault, s_table_worth, s_table_table]
    refine ⟨rfl, D, C, _, rfl, dk, by omega, by omega, fun v S1 v0 v1 f1 => ?_⟩
    refine st_lst (by simp) (nw fun p S2 hp hpp x2 => ?_)
    obtain ⟨g1, g2⟩ := f1.dk.neS hp
    refine ⟨rfl, D, C, p, _, rfl, (f1.ex x2).dk, g1, g2, hpp, by simp, by simp, fun w S3 hw f3 => ?_⟩
    obtain ⟨i, rfl, hi⟩ : ∃ i : Int, w = .int i ∧ 0 ≤ i ∧ i ≤ 10 ^ 9 := by
      simp only [List.mem_cons, List.not_mem_nil, or_false] at hw
      rcases hw with h | h | h | h | h
      · exact ⟨_, h, by omega⟩
      · exact ⟨_, h, by omega⟩
      · exact ⟨_, h, by omega⟩
      · exact ⟨_, h, by omega⟩
      · exact ⟨_, h, by omega⟩
    have := q (.num i) S3 hi ((f1.ex x2).trans f3)
    rw [w_num] at this
    exact this
  | tru =>
    try simp only [t_Lworth, Kd.t, tsNx, tsSeq, tsBrk, tsCt, tsDrop, tsRet, tsRetN, tsIf, tsAsg, tgN, tgsNil, tgsCons, tgTup, tgSub, tsFor, tsWhile, tiSeq, tiRng1, tiRng2, tiZip, tb, tv, tc, tac, tan, ttup, tlst, tq, tand, tor, tnot, tife, tandV, torV, tnotV, tneg, tsl, tno, tpt, tcall, tbi, tml, tml0, tmj, tisi, tlRev, tlRng1, tdisp, tps, tlc, ttYes, bt1, btN, setsT, wipeT, endT, List.getElem?_cons_zero, List.getElem?_cons_succ, List.set_cons_zero, List.set_cons_succ]
    try simp only [ev_t0, ev_t1, ev_t2, ev_eqs, ev_eqi, ev_intb, ev_inti, ev_add, ev_sub, ev_lt, ev_gt, ev_sl1, ev_in2, ev_lent, ev_isn, Bool.or_false, Bool.or_true, Bool.false_or, Bool.true_or, eqG_f, eqG_t, kq, Bool.not_true, Bool.not_false, if_true, if_false, ite_true, ite_false, reduceIte, s_num_num, s_num_truth, s_num_open, s_num_list, s_num_pair, s_num_either, s_num_left, s_num_right, s_num_thing, s_num_fault, s_num_worth, s_num_table, s_truth_num, s_truth_truth, s_truth_open, s_truth_list, s_truth_pair, s_truth_either, s_truth_left, s_truth_right, s_truth_thing, s_truth_fault, s_truth_worth, s_truth_table, s_open_num, s_open_truth, s_open_open, s_open_list, s_open_pair, s_open_either, s_open_left, s_open_right, s_open_thing, s_open_fault, s_open_worth, s_open_table, s_list_num, s_list_truth, s_list_open, s_list_list, s_list_pair, s_list_either, s_list_left, s_list_right, s_list_thing, s_list_fault, s_list_worth, s_list_table, s_pair_num, s_pair_truth, s_pair_open, s_pair_list, s_pair_pair, s_pair_either, s_pair_left, s_pair_right, s_pair_thing, s_pair_fault, s_pair_worth, s_pair_table, s_either_num, s_either_truth, s_either_open, s_either_list, s_either_pair, s_either_either, s_either_left, s_either_right, s_either_thing, s_either_fault, s_either_worth, s_either_table, s_left_num, s_left_truth, s_left_open, s_left_list, s_left_pair, s_left_either, s_left_left, s_left_right, s_left_thing, s_left_fault, s_left_worth, s_left_table, s_right_num, s_right_truth, s_right_open, s_right_list, s_right_pair, s_right_either, s_right_left, s_right_right, s_right_thing, s_right_fault, s_right_worth, s_right_table, s_thing_num, s_thing_truth, s_thing_open, s_thing_list, s_thing_pair, s_thing_either, s_thing_left, s_thing_right, s_thing_thing, s_thing_fault, s_thing_worth, s_thing_table, s_fault_num, s_fault_truth, s_fault_open, s_fault_list, s_fault_pair, s_fault_either, s_fault_left, s_fault_right, s_fault_thing, s_fault_fault, s_fault_worth, s_fault_table, s_worth_num, s_worth_truth, s_worth_open, s_worth_list, s_worth_pair, s_worth_either, s_worth_left, s_worth_right, s_worth_thing, s_worth_fault, s_worth_worth, s_worth_table, s_table_num, s_table_truth, s_table_open, s_table_list, s_table_pair, s_table_either, s_table_left, s_table_right, s_table_thing, s_table_fault, s_table_worth, s_table_table]
    refine ⟨rfl, D, C, _, rfl, dk, by omega, by omega, fun v S1 v0 v1 f1 => ?_⟩
    try simp only [ev_t0, ev_t1, ev_t2, ev_eqs, ev_eqi, ev_intb, ev_inti, ev_add, ev_sub, ev_lt, ev_gt, ev_sl1, ev_in2, ev_lent, ev_isn, Bool.or_false, Bool.or_true, Bool.false_or, Bool.true_or, eqG_f, eqG_t, kq, Bool.not_true, Bool.not_false, if_true, if_false, ite_true, ite_false, reduceIte, s_num_num, s_num_truth, s_num_open, s_num_list, s_num_pair, s_num_either, s_num_left, s_num_right, s_num_thing, s_num_fault, s_num_worth, s_num_table, s_truth_num, s_truth_truth, s_truth_open, s_truth_list, s_truth_pair, s_truth_either, s_truth_left, s_truth_right, s_truth_thing, s_truth_fault, s_truth_worth, s_truth_table, s_open_num, s_open_truth, s_open_open, s_open_list, s_open_pair, s_open_either, s_open_left, s_open_right, s_open_thing, s_open_fault, s_open_worth, s_open_table, s_list_num, s_list_truth, s_list_open, s_list_list, s_list_pair, s_list_either, s_list_left, s_list_right, s_list_thing, s_list_fault, s_list_worth, s_list_table, s_pair_num, s_pair_truth, s_pair_open, s_pair_list, s_pair_pair, s_pair_either, s_pair_left, s_pair_right, s_pair_thing, s_pair_fault, s_pair_worth, s_pair_table, s_either_num, s_either_truth, s_either_open, s_either_list, s_either_pair, s_either_either, s_either_left, s_either_right, s_either_thing, s_either_fault, s_either_worth, s_either_table, s_left_num, s_left_truth, s_left_open, s_left_list, s_left_pair, s_left_either, s_left_left, s_left_right, s_left_thing, s_left_fault, s_left_worth, s_left_table, s_right_num, s_right_truth, s_right_open, s_right_list, s_right_pair, s_right_either, s_right_left, s_right_right, s_right_thing, s_right_fault, s_right_worth, s_right_table, s_thing_num, s_thing_truth, s_thing_open, s_thing_list, s_thing_pair, s_thing_either, s_thing_left, s_thing_right, s_thing_thing, s_thing_fault, s_thing_worth, s_thing_table, s_fault_num, s_fault_truth, s_fault_open, s_fault_list, s_fault_pair, s_fault_either, s_fault_left, s_fault_right, s_fault_thing, s_fault_fault, s_fault_worth, s_fault_table, s_worth_num, s_worth_truth, s_worth_open, s_worth_list, s_worth_pair, s_worth_either, s_worth_left, s_worth_right, s_worth_thing, s_worth_fault, s_worth_worth, s_worth_table, s_table_num, s_table_truth, s_table_open, s_table_list, s_table_pair, s_table_either, s_table_left, s_table_right, s_table_thing, s_table_fault, s_table_worth, s_table_table]
    have := q (.tru (v == 1)) S1 trivial f1
    rw [w_tru] at this
    exact this
  | lst k =>
    try simp only [t_Lworth, Kd.t, tsNx, tsSeq, tsBrk, tsCt, tsDrop, tsRet, tsRetN, tsIf, tsAsg, tgN, tgsNil, tgsCons, tgTup, tgSub, tsFor, tsWhile, tiSeq, tiRng1, tiRng2, tiZip, tb, tv, tc, tac, tan, ttup, tlst, tq, tand, tor, tnot, tife, tandV, torV, tnotV, tneg, tsl, tno, tpt, tcall, tbi, tml, tml0, tmj, tisi, tlRev, tlRng1, tdisp, tps, tlc, ttYes, bt1, btN, setsT, wipeT, endT, List.getElem?_cons_zero, List.getElem?_cons_succ, List.set_cons_zero, List.set_cons_succ]
    try simp only [ev_t0, ev_t1, ev_t2, ev_eqs, ev_eqi, ev_intb, ev_inti, ev_add, ev_sub, ev_lt, ev_gt, ev_sl1, ev_in2, ev_lent, ev_isn, Bool.or_false, Bool.or_true, Bool.false_or, Bool.true_or, eqG_f, eqG_t, kq, Bool.not_true, Bool.not_false, if_true, if_false, ite_true, ite_false, reduceIte, s_num_num, s_num_truth, s_num_open, s_num_list, s_num_pair, s_num_either, s_num_left, s_num_right, s_num_thing, s_num_fault, s_num_worth, s_num_table, s_truth_num, s_truth_truth, s_truth_open, s_truth_list, s_truth_pair, s_truth_either, s_truth_left, s_truth_right, s_truth_thing, s_truth_fault, s_truth_worth, s_truth_table, s_open_num, s_open_truth, s_open_open, s_open_list, s_open_pair, s_open_either, s_open_left, s_open_right, s_open_thing, s_open_fault, s_open_worth, s_open_table, s_list_num, s_list_truth, s_list_open, s_list_list, s_list_pair, s_list_either, s_list_left, s_list_right, s_list_thing, s_list_fault, s_list_worth, s_list_table, s_pair_num, s_pair_truth, s_pair_open, s_pair_list, s_pair_pair, s_pair_either, s_pair_left, s_pair_right, s_pair_thing, s_pair_fault, s_pair_worth, s_pair_table, s_either_num, s_either_truth, s_either_open, s_either_list, s_either_pair, s_either_either, s_either_left, s_either_right, s_either_thing, s_either_fault, s_either_worth, s_either_table, s_left_num, s_left_truth, s_left_open, s_left_list, s_left_pair, s_left_either, s_left_left, s_left_right, s_left_thing, s_left_fault, s_left_worth, s_left_table, s_right_num, s_right_truth, s_right_open, s_right_list, s_right_pair, s_right_either, s_right_left, s_right_right, s_right_thing, s_right_fault, s_right_worth, s_right_table, s_thing_num, s_thing_truth, s_thing_open, s_thing_list, s_thing_pair, s_thing_either, s_thing_left, s_thing_right, s_thing_thing, s_thing_fault, s_thing_worth, s_thing_table, s_fault_num, s_fault_truth, s_fault_open, s_fault_list, s_fault_pair, s_fault_either, s_fault_left, s_fault_right, s_fault_thing, s_fault_fault, s_fault_worth, s_fault_table, s_worth_num, s_worth_truth, s_worth_open, s_worth_list, s_worth_pair, s_worth_either, s_worth_left, s_worth_right, s_worth_thing, s_worth_fault, s_worth_worth, s_worth_table, s_table_num, s_table_truth, s_table_open, s_table_list, s_table_pair, s_table_either, s_table_left, s_table_right, s_table_thing, s_table_fault, s_table_worth, s_table_table]
    refine ⟨rfl, D, C, _, rfl, dk, by omega, by omega, fun v S1 v0 v1 f1 => ?_⟩
    refine ⟨by omega, by omega, fun L hL => ⟨fun i acc S' => i ≤ v.toNat ∧ ∃ ws : List W, acc = ws.map W.t ∧ ws.length = i ∧ (∀ w ∈ ws, Has sz 12 k w) ∧ S' L = some (.lst acc) ∧ Fr D C S S', fun S0 u => ?_, ?_⟩⟩
    · exact ⟨Nat.zero_le _, [], rfl, rfl, (by intro w hw; cases hw), u.at_, f1.ex fun a o e => u.get (nn hL e) e⟩
    · rintro i acc S' ⟨hi, ws, rfl, hn, hw, hS, fr⟩
      have hLS : S L = none := f1.none dk hL
      obtain ⟨hLD, hLC⟩ := dk.neS hLS
      refine ⟨hS, trivial, ?_⟩
      cases hx : (rngT 0 v.toNat)[i]? with
      | none =>
        have := rng_none hx
        simp only []
        refine st_tupl hS ?_
        refine ⟨z4000 (by simp), ?_⟩
        have := q (.lst ws) S' ⟨by omega, hw⟩ fr
        rw [w_lst] at this
        exact this
      | some x =>
        obtain ⟨h1, rfl⟩ := rng_some hx
        try simp only [tsNx, tsSeq, tsBrk, tsCt, tsDrop, tsRet, tsRetN, tsIf, tsAsg, tgN, tgsNil, tgsCons, tgTup, tgSub, tsFor, tsWhile, tiSeq, tiRng1, tiRng2, tiZip, tb, tv, tc, tac, tan, ttup, tlst, tq, tand, tor, tnot, tife, tandV, torV, tnotV, tneg, tsl, tno, tpt, tcall, tbi, tml, tml0, tmj, tisi, tlRev, tlRng1, tdisp, tps, tlc, ttYes, bt1, btN, setsT, wipeT, endT, List.getElem?_cons_zero, List.getElem?_cons_succ, List.set_cons_zero, List.set_cons_succ]
        try simp only [ev_t0, ev_t1, ev_t2, ev_eqs, ev_eqi, ev_intb, ev_inti, ev_add, ev_sub, ev_lt, ev_gt, ev_sl1, ev_in2, ev_lent, ev_isn, Bool.or_false, Bool.or_true, Bool.false_or, Bool.true_or, eqG_f, eqG_t, kq, Bool.not_true, Bool.not_false, if_true, if_false, ite_true, ite_false, reduceIte, s_num_num, s_num_truth, s_num_open, s_num_list, s_num_pair, s_num_either, s_num_left, s_num_right, s_num_thing, s_num_fault, s_num_worth, s_num_table, s_truth_num, s_truth_truth, s_truth_open, s_truth_list, s_truth_pair, s_truth_either, s_truth_left, s_truth_right, s_truth_thing, s_truth_fault, s_truth_worth, s_truth_table, s_open_num, s_open_truth, s_open_open, s_open_list, s_open_pair, s_open_either, s_open_left, s_open_right, s_open_thing, s_open_fault, s_open_worth, s_open_table, s_list_num, s_list_truth, s_list_open, s_list_list, s_list_pair, s_list_either, s_list_left, s_list_right, s_list_thing, s_list_fault, s_list_worth, s_list_table, s_pair_num, s_pair_truth, s_pair_open, s_pair_list, s_pair_pair, s_pair_either, s_pair_left, s_pair_right, s_pair_thing, s_pair_fault, s_pair_worth, s_pair_table, s_either_num, s_either_truth, s_either_open, s_either_list, s_either_pair, s_either_either, s_either_left, s_either_right, s_either_thing, s_either_fault, s_either_worth, s_either_table, s_left_num, s_left_truth, s_left_open, s_left_list, s_left_pair, s_left_either, s_left_left, s_left_right, s_left_thing, s_left_fault, s_left_worth, s_left_table, s_right_num, s_right_truth, s_right_open, s_right_list, s_right_pair, s_right_either, s_right_left, s_right_right, s_right_thing, s_right_fault, s_right_worth, s_right_table, s_thing_num, s_thing_truth, s_thing_open, s_thing_list, s_thing_pair, s_thing_either, s_thing_left, s_thing_right, s_thing_thing, s_thing_fault, s_thing_worth, s_thing_table, s_fault_num, s_fault_truth, s_fault_open, s_fault_list, s_fault_pair, s_fault_either, s_fault_left, s_fault_right, s_fault_thing, s_fault_fault, s_fault_worth, s_fault_table, s_worth_num, s_worth_truth, s_worth_open, s_worth_list, s_worth_pair, s_worth_either, s_worth_left, s_worth_right, s_worth_thing, s_worth_fault, s_worth_worth, s_worth_table, s_table_num, s_table_truth, s_table_open, s_table_list, s_table_pair, s_table_either, s_table_left, s_table_right, s_table_thing, s_table_fault, s_table_worth, s_table_table]
        refine ⟨rfl, D, C, z, sz, names, k, m, rfl, fr.dk, nD, nC, hs.fr fr nD nC, hok, by have : k.h + 1 < n + 1 := hh; omega, hm0, hm12, fun w S2 hw2 f2 => ?_⟩
        have f3 := fr.trans f2
        refine ⟨f2.kp _ _ hLD hLC hS, by rw [List.length_map]; exact Nat.lt_of_lt_of_le (show ws.length < 100 by omega) (by decide), fun S5 u => ⟨h1, ws ++ [w], snoc_map _ _ _, by simp [hn], ?_, u.at_, ?_⟩⟩
        · intro y hy
          rcases List.mem_append.mp hy with h | h
          · exact hw y h
          · rw [List.mem_singleton.mp h]; exact hw2
        · refine ⟨?_, fun a o h1 h2 h => u.get (fun z => by rw [z, hLS] at h; cases h) (f3.kp a o h1 h2 h)⟩
          obtain ⟨ne, a1, a2, a3, a4, a5, a6⟩ := f3.dk
          exact ⟨ne, a1, a2, a3, u.get (Ne.symm hLD) a4, u.get (Ne.symm hLC) a5, a6⟩
  | pair a b =>
    try simp only [t_Lworth, Kd.t, tsNx, tsSeq, tsBrk, tsCt, tsDrop, tsRet, tsRetN, tsIf, tsAsg, tgN, tgsNil, tgsCons, tgTup, tgSub, tsFor, tsWhile, tiSeq, tiRng1, tiRng2, tiZip, tb, tv, tc, tac, tan, ttup, tlst, tq, tand, tor, tnot, tife, tandV, torV, tnotV, tneg, tsl, tno, tpt, tcall, tbi, tml, tml0, tmj, tisi, tlRev, tlRng1, tdisp, tps, tlc, ttYes, bt1, btN, setsT, wipeT, endT, List.getElem?_cons_zero, List.getElem?_cons_succ, List.set_cons_zero, List.set_cons_succ]
    try simp only [ev_t0, ev_t1, ev_t2, ev_eqs, ev_eqi, ev_intb, ev_inti, ev_add, ev_sub, ev_lt, ev_gt, ev_sl1, ev_in2, ev_lent, ev_isn, Bool.or_false, Bool.or_true, Bool.false_or, Bool.true_or, eqG_f, eqG_t, kq, Bool.not_true, Bool.not_false, if_true, if_false, ite_true, ite_false, reduceIte, s_num_num, s_num_truth, s_num_open, s_num_list, s_num_pair, s_num_either, s_num_left, s_num_right, s_num_thing, s_num_fault, s_num_worth, s_num_table, s_truth_num, s_truth_truth, s_truth_open, s_truth_list, s_truth_pair, s_truth_either, s_truth_left, s_truth_right, s_truth_thing, s_truth_fault, s_truth_worth, s_truth_table, s_open_num, s_open_truth, s_open_open, s_open_list, s_open_pair, s_open_either, s_open_left, s_open_right, s_open_thing, s_open_fault, s_open_worth, s_open_table, s_list_num, s_list_truth, s_list_open, s_list_list, s_list_pair, s_list_either, s_list_left, s_list_right, s_list_thing, s_list_fault, s_list_worth, s_list_table, s_pair_num, s_pair_truth, s_pair_open, s_pair_list, s_pair_pair, s_pair_either, s_pair_left, s_pair_right, s_pair_thing, s_pair_fault, s_pair_worth, s_pair_table, s_either_num, s_either_truth, s_either_open, s_either_list, s_either_pair, s_either_either, s_either_left, s_either_right, s_either_thing, s_either_fault, s_either_worth, s_either_table, s_left_num, s_left_truth, s_left_open, s_left_list, s_left_pair, s_left_either, s_left_left, s_left_right, s_left_thing, s_left_fault, s_left_worth, s_left_table, s_right_num, s_right_truth, s_right_open, s_right_list, s_right_pair, s_right_either, s_right_left, s_right_right, s_right_thing, s_right_fault, s_right_worth, s_right_table, s_thing_num, s_thing_truth, s_thing_open, s_thing_list, s_thing_pair, s_thing_either, s_thing_left, s_thing_right, s_thing_thing, s_thing_fault, s_thing_worth, s_thing_table, s_fault_num, s_fault_truth, s_fault_open, s_fault_list, s_fault_pair, s_fault_either, s_fault_left, s_fault_right, s_fault_thing, s_fault_fault, s_fault_worth, s_fault_table, s_worth_num, s_worth_truth, s_worth_open, s_worth_list, s_worth_pair, s_worth_either, s_worth_left, s_worth_right, s_worth_thing, s_worth_fault, s_worth_worth, s_worth_table, s_table_num, s_table_truth, s_table_open, s_table_list, s_table_pair, s_table_either, s_table_left, s_table_right, s_table_thing, s_table_fault, s_table_worth, s_table_table]
    have h' : max a.h b.h + 1 < n + 1 := hh
    refine ⟨rfl, D, C, z, sz, names, a, m, rfl, dk, nD, nC, hs, hok.1, by omega, hm0, hm12, fun w S2 hw2 f2 => ?_⟩
    refine ⟨rfl, D, C, z, sz, names, b, m, rfl, f2.dk, nD, nC, hs.fr f2 nD nC, hok.2, by omega, hm0, hm12, fun w' S3 hw3 f3 => ?_⟩
    refine ⟨z4000 (by simp), ?_⟩
    have := q (.pair w w') S3 ⟨hw2, hw3⟩ (f2.trans f3)
    rw [w_pair] at this
    exact this
  | eith a b =>
    try simp only [t_Lworth, Kd.t, tsNx, tsSeq, tsBrk, tsCt, tsDrop, tsRet, tsRetN, tsIf, tsAsg, tgN, tgsNil, tgsCons, tgTup, tgSub, tsFor, tsWhile, tiSeq, tiRng1, tiRng2, tiZip, tb, tv, tc, tac, tan, ttup, tlst, tq, tand, tor, tnot, tife, tandV, torV, tnotV, tneg, tsl, tno, tpt, tcall, tbi, tml, tml0, tmj, tisi, tlRev, tlRng1, tdisp, tps, tlc, ttYes, bt1, btN, setsT, wipeT, endT, List.getElem?_cons_zero, List.getElem?_cons_succ, List.set_cons_zero, List.set_cons_succ]
    try simp only [ev_t0, ev_t1, ev_t2, ev_eqs, ev_eqi, ev_intb, ev_inti, ev_add, ev_sub, ev_lt, ev_gt, ev_sl1, ev_in2, ev_lent, ev_isn, Bool.or_false, Bool.or_true, Bool.false_or, Bool.true_or, eqG_f, eqG_t, kq, Bool.not_true, Bool.not_false, if_true, if_false, ite_true, ite_false, reduceIte, s_num_num, s_num_truth, s_num_open, s_num_list, s_num_pair, s_num_either, s_num_left, s_num_right, s_num_thing, s_num_fault, s_num_worth, s_num_table, s_truth_num, s_truth_truth, s_truth_open, s_truth_list, s_truth_pair, s_truth_either, s_truth_left, s_truth_right, s_truth_thing, s_truth_fault, s_truth_worth, s_truth_table, s_open_num, s_open_truth, s_open_open, s_open_list, s_open_pair, s_open_either, s_open_left, s_open_right, s_open_thing, s_open_fault, s_open_worth, s_open_table, s_list_num, s_list_truth, s_list_open, s_list_list, s_list_pair, s_list_either, s_list_left, s_list_right, s_list_thing, s_list_fault, s_list_worth, s_list_table, s_pair_num, s_pair_truth, s_pair_open, s_pair_list, s_pair_pair, s_pair_either, s_pair_left, s_pair_right, s_pair_thing, s_pair_fault, s_pair_worth, s_pair_table, s_either_num, s_either_truth, s_either_open, s_either_list, s_either_pair, s_either_either, s_either_left, s_either_right, s_either_thing, s_either_fault, s_either_worth, s_either_table, s_left_num, s_left_truth, s_left_open, s_left_list, s_left_pair, s_left_either, s_left_left, s_left_right, s_left_thing, s_left_fault, s_left_worth, s_left_table, s_right_num, s_right_truth, s_right_open, s_right_list, s_right_pair, s_right_either, s_right_left, s_right_right, s_right_thing, s_right_fault, s_right_worth, s_right_table, s_thing_num, s_thing_truth, s_thing_open, s_thing_list, s_thing_pair, s_thing_either, s_thing_left, s_thing_right, s_thing_thing, s_thing_fault, s_thing_worth, s_thing_table, s_fault_num, s_fault_truth, s_fault_open, s_fault_list, s_fault_pair, s_fault_either, s_fault_left, s_fault_right, s_fault_thing, s_fault_fault, s_fault_worth, s_fault_table, s_worth_num, s_worth_truth, s_worth_open, s_worth_list, s_worth_pair, s_worth_either, s_worth_left, s_worth_right, s_worth_thing, s_worth_fault, s_worth_worth, s_worth_table, s_table_num, s_table_truth, s_table_open, s_table_list, s_table_pair, s_table_either, s_table_left, s_table_right, s_table_thing, s_table_fault, s_table_worth, s_table_table]
    have h' : max a.h b.h + 1 < n + 1 := hh
    refine ⟨rfl, D, C, _, rfl, dk, by omega, by omega, fun v S1 v0 v1 f1 => ?_⟩
    refine st_lst (by simp) (nw fun p S2 hp hpp x2 => ?_)
    have f2 := f1.ex x2
    rcases (by omega : v = 0 ∨ v = 1) with rfl | rfl
    · refine st_ixl hpp at2_0 ?_
      try simp only [one0, ev_t0, ev_t1, ev_t2, ev_eqs, ev_eqi, ev_intb, ev_inti, ev_add, ev_sub, ev_lt, ev_gt, ev_sl1, ev_in2, ev_lent, ev_isn, Bool.or_false, Bool.or_true, Bool.false_or, Bool.true_or, eqG_f, eqG_t, kq, Bool.not_true, Bool.not_false, if_true, if_false, ite_true, ite_false, reduceIte, s_num_num, s_num_truth, s_num_open, s_num_list, s_num_pair, s_num_either, s_num_left, s_num_right, s_num_thing, s_num_fault, s_num_worth, s_num_table, s_truth_num, s_truth_truth, s_truth_open, s_truth_list, s_truth_pair, s_truth_either, s_truth_left, s_truth_right, s_truth_thing, s_truth_fault, s_truth_worth, s_truth_table, s_open_num, s_open_truth, s_open_open, s_open_list, s_open_pair, s_open_either, s_open_left, s_open_right, s_open_thing, s_open_fault, s_open_worth, s_open_table, s_list_num, s_list_truth, s_list_open, s_list_list, s_list_pair, s_list_either, s_list_left, s_list_right, s_list_thing, s_list_fault, s_list_worth, s_list_table, s_pair_num, s_pair_truth, s_pair_open, s_pair_list, s_pair_pair, s_pair_either, s_pair_left, s_pair_right, s_pair_thing, s_pair_fault, s_pair_worth, s_pair_table, s_either_num, s_either_truth, s_either_open, s_either_list, s_either_pair, s_either_either, s_either_left, s_either_right, s_either_thing, s_either_fault, s_either_worth, s_either_table, s_left_num, s_left_truth, s_left_open, s_left_list, s_left_pair, s_left_either, s_left_left, s_left_right, s_left_thing, s_left_fault, s_left_worth, s_left_table, s_right_num, s_right_truth, s_right_open, s_right_list, s_right_pair, s_right_either, s_right_left, s_right_right, s_right_thing, s_right_fault, s_right_worth, s_right_table, s_thing_num, s_thing_truth, s_thing_open, s_thing_list, s_thing_pair, s_thing_either, s_thing_left, s_thing_right, s_thing_thing, s_thing_fault, s_thing_worth, s_thing_table, s_fault_num, s_fault_truth, s_fault_open, s_fault_list, s_fault_pair, s_fault_either, s_fault_left, s_fault_right, s_fault_thing, s_fault_fault, s_fault_worth, s_fault_table, s_worth_num, s_worth_truth, s_worth_open, s_worth_list, s_worth_pair, s_worth_either, s_worth_left, s_worth_right, s_worth_thing, s_worth_fault, s_worth_worth, s_worth_table, s_table_num, s_table_truth, s_table_open, s_table_list, s_table_pair, s_table_either, s_table_left, s_table_right, s_table_thing, s_table_fault, s_table_worth, s_table_table]
      refine ⟨rfl, D, C, z, sz, names, a, m, rfl, f2.dk, nD, nC, hs.fr f2 nD nC, hok.1, by omega, hm0, hm12, fun w S3 hw3 f3 => ⟨z4000 (by simp), ?_⟩⟩
      have := q (.left w) S3 hw3 (f2.trans f3)
      rw [w_left] at this
      exact this
    · refine st_ixl hpp at2_1 ?_
      try simp only [one1, ev_t0, ev_t1, ev_t2, ev_eqs, ev_eqi, ev_intb, ev_inti, ev_add, ev_sub, ev_lt, ev_gt, ev_sl1, ev_in2, ev_lent, ev_isn, Bool.or_false, Bool.or_true, Bool.false_or, Bool.true_or, eqG_f, eqG_t, kq, Bool.not_true, Bool.not_false, if_true, if_false, ite_true, ite_false, reduceIte, s_num_num, s_num_truth, s_num_open, s_num_list, s_num_pair, s_num_either, s_num_left, s_num_right, s_num_thing, s_num_fault, s_num_worth, s_num_table, s_truth_num, s_truth_truth, s_truth_open, s_truth_list, s_truth_pair, s_truth_either, s_truth_left, s_truth_right, s_truth_thing, s_truth_fault, s_truth_worth, s_truth_table, s_open_num, s_open_truth, s_open_open, s_open_list, s_open_pair, s_open_either, s_open_left, s_open_right, s_open_thing, s_open_fault, s_open_worth, s_open_table, s_list_num, s_list_truth, s_list_open, s_list_list, s_list_pair, s_list_either, s_list_left, s_list_right, s_list_thing, s_list_fault, s_list_worth, s_list_table, s_pair_num, s_pair_truth, s_pair_open, s_pair_list, s_pair_pair, s_pair_either, s_pair_left, s_pair_right, s_pair_thing, s_pair_fault, s_pair_worth, s_pair_table, s_either_num, s_either_truth, s_either_open, s_either_list, s_either_pair, s_either_either, s_either_left, s_either_right, s_either_thing, s_either_fault, s_either_worth, s_either_table, s_left_num, s_left_truth, s_left_open, s_left_list, s_left_pair, s_left_either, s_left_left, s_left_right, s_left_thing, s_left_fault, s_left_worth, s_left_table, s_right_num, s_right_truth, s_right_open, s_right_list, s_right_pair, s_right_either, s_right_left, s_right_right, s_right_thing, s_right_fault, s_right_worth, s_right_table, s_thing_num, s_thing_truth, s_thing_open, s_thing_list, s_thing_pair, s_thing_either, s_thing_left, s_thing_right, s_thing_thing, s_thing_fault, s_thing_worth, s_thing_table, s_fault_num, s_fault_truth, s_fault_open, s_fault_list, s_fault_pair, s_fault_either, s_fault_left, s_fault_right, s_fault_thing, s_fault_fault, s_fault_worth, s_fault_table, s_worth_num, s_worth_truth, s_worth_open, s_worth_list, s_worth_pair, s_worth_either, s_worth_left, s_worth_right, s_worth_thing, s_worth_fault, s_worth_worth, s_worth_table, s_table_num, s_table_truth, s_table_open, s_table_list, s_table_pair, s_table_either, s_table_left, s_table_right, s_table_thing, s_table_fault, s_table_worth, s_table_table]
      refine ⟨rfl, D, C, z, sz, names, b, m, rfl, f2.dk, nD, nC, hs.fr f2 nD nC, hok.2, by omega, hm0, hm12, fun w S3 hw3 f3 => ⟨z4000 (by simp), ?_⟩⟩
      have := q (.right w) S3 hw3 (f2.trans f3)
      rw [w_right] at this
      exact this
end LAW
set_option Elab.async false
set_option linter.all false
set_option maxRecDepth 100000
set_option maxHeartbeats 4000000
/-! TLC6: maps are drawn. -/
namespace LAW
open PySem PySem.Spec PyProof.Rows L2 TL
theorem erase_map {α β : Type} (f : α → β) : ∀ (xs : List α) (k : Nat), (xs.map f).eraseIdx k = (xs.eraseIdx k).map f
  | [], k => by simp
  | x :: xs, 0 => rfl
  | x :: xs, k + 1 => congrArg (f x :: ·) (erase_map f xs k)
theorem seqIx {i : Int} {n : Nat} (h0 : 0 ≤ i) (h : i < n) : seqIndex? i n = some i.toNat := by
  unfold seqIndex?
  first | (rw [if_neg (by omega)]; simp; omega) | (split <;> first | omega | (simp; omega)) | (simp; omega)
theorem rowsT_snoc (x : Str) : ∀ (l : List (Option Nat)) (k : Nat) (o : Option Nat), rowsT x k (l ++ [o]) = rowsT x k l ++ [.tup [.tup [.str "thing", .str x, .int ((k + l.length : Nat) : Int)], toldT x o]]
  | [], k, o => by simp [rowsT]
  | p :: l, k, o => by
    rw [List.cons_append, rowsT, rowsT_snoc x l (k + 1) o, rowsT, List.cons_append, List.length_cons]
    rw [show k + 1 + l.length = k + (l.length + 1) by omega]
theorem rowsT_len (x : Str) : ∀ (l : List (Option Nat)) (k : Nat), (rowsT x k l).length = l.length
  | [], _ => rfl
  | p :: l, k => by rw [rowsT, List.length_cons, List.length_cons, rowsT_len x l (k + 1)]
theorem keyStrs_map (ks : List Str) : keyStrs (ks.map Sum.inr) = some ks := by
  induction ks with
  | nil => rfl
  | cons k r ih => show (keyStrs (r.map Sum.inr)).map (k :: ·) = _; rw [ih]; rfl
theorem fr_upd {S S1 S2 : Sto} {D C p : Addr} {o : MO} (dk : Deck S D C) (f : Fr D C S S1) (hp : S p = none) (u : Upd S1 p o S2) : Fr D C S S2 := by
  obtain ⟨n1, n2⟩ := dk.neS hp
  refine ⟨?_, fun a o h1 h2 h => u.get (fun z => by rw [z, hp] at h; cases h) (f.kp a o h1 h2 h)⟩
  obtain ⟨ne, a1, a2, a3, a4, a5, a6⟩ := f.dk
  exact ⟨ne, a1, a2, a3, u.get (Ne.symm n1) a4, u.get (Ne.symm n2) a5, a6⟩
theorem rngT_ints (n : Nat) : ∀ lo : Int, ∃ ns : List Int, rngT lo n = ns.map T.int ∧ ns.length = n ∧ ∀ y ∈ ns, lo ≤ y ∧ y < lo + n := by
  induction n with
  | zero => intro lo; exact ⟨[], rfl, rfl, by intro y hy; cases hy⟩
  | succ n ih =>
    intro lo
    obtain ⟨ns, h1, h2, h3⟩ := ih (lo + 1)
    refine ⟨lo :: ns, by rw [rngT, h1]; rfl, by rw [List.length_cons, h2], fun y hy => ?_⟩
    rcases List.mem_cons.mp hy with z | z
    · omega
    · have := h3 y z; omega
theorem vc_maps (ts : List T) (S : Sto) (Q : T → Sto → Prop) (hl : ts.length = 3) (h : spMaps ts S Q) : t_Lmaps (endT Q) (startT N_Lmaps.length ts) S := by
  obtain ⟨D, C, z, sz, names, kvs, f, rfl, dk, nD, nC, hz, hkeys, hnd, hn8, hlo, hs, q⟩ := h
  rw [show startT N_Lmaps.length [T.adr D, T.adr z, T.int f] = [some (T.adr D), some (T.adr z), some (T.int f), none, none, none, none, none, none, none, none] from rfl]
  unfold t_Lmaps
  refine seq_cut fun v1 hv1 => ?_
  try simp only [tsNx, tsSeq, tsBrk, tsCt, tsDrop, tsRet, tsRetN, tsIf, tsAsg, tgN, tgsNil, tgsCons, tgTup, tgSub, tsFor, tsWhile, tiSeq, tiRng1, tiRng2, tiZip, tb, tv, tc, tac, tan, ttup, tlst, tq, tand, tor, tnot, tife, tandV, torV, tnotV, tneg, tsl, tno, tpt, tcall, tbi, tml, tml0, tmj, tisi, tlRev, tlRng1, tdisp, tps, tlc, ttYes, bt1, btN, setsT, wipeT, endT, List.getElem?_cons_zero, List.getElem?_cons_succ, List.set_cons_zero, List.set_cons_succ]
  refine st_nil (nw fun F S1 hF hFF x1 => ?_)
  rw [hv1]
  refine seq_cut fun v2 hv2 => for_cut fun b1 hb1 => ?_
  try simp only [tsNx, tsSeq, tsBrk, tsCt, tsDrop, tsRet, tsRetN, tsIf, tsAsg, tgN, tgsNil, tgsCons, tgTup, tgSub, tsFor, tsWhile, tiSeq, tiRng1, tiRng2, tiZip, tb, tv, tc, tac, tan, ttup, tlst, tq, tand, tor, tnot, tife, tandV, torV, tnotV, tneg, tsl, tno, tpt, tcall, tbi, tml, tml0, tmj, tisi, tlRev, tlRng1, tdisp, tps, tlc, ttYes, bt1, btN, setsT, wipeT, endT, List.getElem?_cons_zero, List.getElem?_cons_succ, List.set_cons_zero, List.set_cons_succ]
  have hz1 := x1 _ _ hz
  simp only [oSorted, hz1, hkeys, keyStrs_map]
  refine ⟨by omega, fun ys hperm _ => nw fun G S2 hG hGG x2 => ?_⟩
  simp only [lstAt_of hGG]
  have f2 : Fr D C S S2 := ((Fr.refl dk).ex x1).ex x2
  have hFS : S F = none := hF
  have hGS : S G = none := x1.none hG
  have hFG : F ≠ G := fun z => by rw [z, hG] at hFF; cases hFF
  obtain ⟨F1, F2⟩ := dk.neS hFS
  obtain ⟨G1, G2⟩ := dk.neS hGS
  have ymem : ∀ y ∈ ys, y ∈ names := fun y hy => hperm.mem_iff.mp hy
  obtain ⟨kvs', hz', hk⟩ := id hs
  rw [hz] at hz'; cases hz'
  refine ⟨fun i ρ' S' => i ≤ ys.length ∧ (∃ k4 k5 k6 k7 k8 k9 k10, ρ' = [some (T.adr D), some (T.adr z), some (T.int f), some (T.adr F), k4, k5, k6, k7, k8, k9, k10]) ∧
    ∃ rws : Rows, rws.map (·.1) = ys.take i ∧ (∀ r ∈ rws, r.2.length = sz r.1 ∧ ∀ o ∈ r.2, ∀ j, o = some j → j < 12) ∧ S' F = some (.lst (rws.map mapT)) ∧ S' G = some (.lst (ys.map T.str)) ∧ Fr D C S S', ?_, ?_⟩
  · exact ⟨Nat.zero_le _, ⟨_, _, _, _, _, _, _, rfl⟩, [], by simp, (by intro r hr; cases hr), x2 _ _ hFF, hGG, f2⟩
  · rintro i ρ' S' ⟨hi, ⟨k4, k5, k6, k7, k8, k9, k10, rfl⟩, rws, r1, r2, r3, r4, fr⟩
    refine ⟨lstAt_of r4, ?_⟩
    cases hx : (ys.map T.str)[i]? with
    | none =>
      have hlen := List.getElem?_eq_none_iff.mp hx
      rw [List.length_map] at hlen
      have hii : i = ys.length := by omega
      subst hii
      rw [List.take_length] at r1
      simp only []
      rw [hv2]
      try simp only [tsNx, tsSeq, tsBrk, tsCt, tsDrop, tsRet, tsRetN, tsIf, tsAsg, tgN, tgsNil, tgsCons, tgTup, tgSub, tsFor, tsWhile, tiSeq, tiRng1, tiRng2, tiZip, tb, tv, tc, tac, tan, ttup, tlst, tq, tand, tor, tnot, tife, tandV, torV, tnotV, tneg, tsl, tno, tpt, tcall, tbi, tml, tml0, tmj, tisi, tlRev, tlRng1, tdisp, tps, tlc, ttYes, bt1, btN, setsT, wipeT, endT, List.getElem?_cons_zero, List.getElem?_cons_succ, List.set_cons_zero, List.set_cons_succ]
      refine st_tupl r3 ?_
      have hlen' : rws.length = ys.length := by have := congrArg List.length r1; rwa [List.length_map] at this
      have hyn : ys.length = names.length := hperm.length_eq
      have rmem : ∀ r ∈ rws, r.1 ∈ names := fun r hr => ymem _ (by rw [← r1]; exact List.mem_map.mpr ⟨r, hr, rfl⟩)
      refine q rws S' ⟨by rw [r1]; exact hperm.nodup_iff.mpr hnd, fun r hr => hlo _ (rmem r hr), fun r hr => ?_, by omega⟩ (fun x hx => ?_) fr
      · obtain ⟨a1, a2⟩ := r2 r hr
        obtain ⟨_, b2, b3⟩ := hk _ (rmem r hr)
        rw [a1]
        exact ⟨b2, b3, a2⟩
      · have hxy : x ∈ rws.map (·.1) := by rw [r1]; exact hperm.mem_iff.mpr hx
        obtain ⟨r0, hr0, e0⟩ := List.mem_map.mp hxy
        unfold siz
        cases hfd : rws.find? (fun r => decide (r.1 = x)) with
        | none =>
          have := List.find?_eq_none.mp hfd r0 hr0
          simp [e0] at this
        | some r =>
          have hm := List.mem_of_find?_eq_some hfd
          have hp := List.find?_some hfd
          have hp : r.1 = x := by simpa using hp
          show r.2.length = sz x
          rw [(r2 r hm).1, hp]
    | some xx =>
      obtain ⟨hil, hxx⟩ := List.getElem?_eq_some_iff.mp hx
      rw [List.length_map] at hil
      have hxe : xx = .str ys[i] := by rw [← hxx]; simp
      subst hxe
      have hyi : ys[i] ∈ names := ymem _ (List.getElem_mem hil)
      have htake : ys.take (i + 1) = ys.take i ++ [ys[i]] := by rw [List.take_succ_eq_append_getElem hil]
      generalize ys[i] = nm at *
      obtain ⟨g1, g2, g3⟩ := hk nm hyi
      try simp only [tsNx, tsSeq, tsBrk, tsCt, tsDrop, tsRet, tsRetN, tsIf, tsAsg, tgN, tgsNil, tgsCons, tgTup, tgSub, tsFor, tsWhile, tiSeq, tiRng1, tiRng2, tiZip, tb, tv, tc, tac, tan, ttup, tlst, tq, tand, tor, tnot, tife, tandV, torV, tnotV, tneg, tsl, tno, tpt, tcall, tbi, tml, tml0, tmj, tisi, tlRev, tlRng1, tdisp, tps, tlc, ttYes, bt1, btN, setsT, wipeT, endT, List.getElem?_cons_zero, List.getElem?_cons_succ, List.set_cons_zero, List.set_cons_succ]
      rw [hb1]
      refine seq_cut fun v3 hv3 => ?_
      try simp only [tsNx, tsSeq, tsBrk, tsCt, tsDrop, tsRet, tsRetN, tsIf, tsAsg, tgN, tgsNil, tgsCons, tgTup, tgSub, tsFor, tsWhile, tiSeq, tiRng1, tiRng2, tiZip, tb, tv, tc, tac, tan, ttup, tlst, tq, tand, tor, tnot, tife, tandV, torV, tnotV, tneg, tsl, tno, tpt, tcall, tbi, tml, tml0, tmj, tisi, tlRev, tlRng1, tdisp, tps, tlc, ttYes, bt1, btN, setsT, wipeT, endT, List.getElem?_cons_zero, List.getElem?_cons_succ, List.set_cons_zero, List.set_cons_succ]
      refine ⟨rfl, D, C, 4, rfl, fr.dk, by omega, by omega, fun way S3 w0 w1 f3' => ?_⟩
      have f3 := fr.trans f3'
      have r3' := f3'.kp _ _ F1 F2 r3
      have r4' := f3'.kp _ _ G1 G2 r4
      rw [hv3]
      refine seq_cut fun v4 hv4 => ?_
      try simp only [tsNx, tsSeq, tsBrk, tsCt, tsDrop, tsRet, tsRetN, tsIf, tsAsg, tgN, tgsNil, tgsCons, tgTup, tgSub, tsFor, tsWhile, tiSeq, tiRng1, tiRng2, tiZip, tb, tv, tc, tac, tan, ttup, tlst, tq, tand, tor, tnot, tife, tandV, torV, tnotV, tneg, tsl, tno, tpt, tcall, tbi, tml, tml0, tmj, tisi, tlRev, tlRng1, tdisp, tps, tlc, ttYes, bt1, btN, setsT, wipeT, endT, List.getElem?_cons_zero, List.getElem?_cons_succ, List.set_cons_zero, List.set_cons_succ]
      refine st_ixd (f3.kp _ _ nD nC hz) rfl g1 ?_
      simp only [oInt]
      refine ⟨by omega, by omega, nw fun Lf S4 hLf hLL x4 => ?_⟩
      have f4 := f3.ex x4
      rw [hv4]
      refine seq_cut fun v5 hv5 => ?_
      try simp only [tsNx, tsSeq, tsBrk, tsCt, tsDrop, tsRet, tsRetN, tsIf, tsAsg, tgN, tgsNil, tgsCons, tgTup, tgSub, tsFor, tsWhile, tiSeq, tiRng1, tiRng2, tiZip, tb, tv, tc, tac, tan, ttup, tlst, tq, tand, tor, tnot, tife, tandV, torV, tnotV, tneg, tsl, tno, tpt, tcall, tbi, tml, tml0, tmj, tisi, tlRev, tlRng1, tdisp, tps, tlc, ttYes, bt1, btN, setsT, wipeT, endT, List.getElem?_cons_zero, List.getElem?_cons_succ, List.set_cons_zero, List.set_cons_succ]
      refine st_nil (nw fun R S5 hR hRR x5 => ?_)
      have f5 := f4.ex x5
      have r3'' := x5 _ _ (x4 _ _ r3')
      have r4'' := x5 _ _ (x4 _ _ r4')
      have hL5 := x5 _ _ hLL
      have hLS : S Lf = none := f3.none dk hLf
      have hRS : S R = none := f4.none dk hR
      obtain ⟨L1, L2⟩ := dk.neS hLS
      obtain ⟨R1, R2⟩ := dk.neS hRS
      have hRL : R ≠ Lf := fun z => by rw [z, hLL] at hR; cases hR
      have hFL : F ≠ Lf := fun z => by rw [← z, r3'] at hLf; cases hLf
      have hGL : G ≠ Lf := fun z => by rw [← z, r4'] at hLf; cases hLf
      have hFR : F ≠ R := fun z => by rw [← z, x4 _ _ r3'] at hR; cases hR
      have hGR : G ≠ R := fun z => by rw [← z, x4 _ _ r4'] at hR; cases hR
      clear r3' r4' f3' hLL x4 x5 r3 r4
      obtain ⟨ns0, e0, l0, b0⟩ := rngT_ints (sz nm) 0
      have e00 : rngT 0 (((sz nm : Nat) : Int)).toNat = ns0.map T.int := by rw [← e0]; rfl
      rw [e00] at hL5
      rw [hv5]
      refine seq_cut fun v6 hv6 => for_cut fun b2 hb2 => ?_
      try simp only [tsNx, tsSeq, tsBrk, tsCt, tsDrop, tsRet, tsRetN, tsIf, tsAsg, tgN, tgsNil, tgsCons, tgTup, tgSub, tsFor, tsWhile, tiSeq, tiRng1, tiRng2, tiZip, tb, tv, tc, tac, tan, ttup, tlst, tq, tand, tor, tnot, tife, tandV, torV, tnotV, tneg, tsl, tno, tpt, tcall, tbi, tml, tml0, tmj, tisi, tlRev, tlRng1, tdisp, tps, tlc, ttYes, bt1, btN, setsT, wipeT, endT, List.getElem?_cons_zero, List.getElem?_cons_succ, List.set_cons_zero, List.set_cons_succ]
      refine st_ixd (f5.kp _ _ nD nC hz) rfl g1 ?_
      simp only []
      refine ⟨by omega, by omega, ⟨fun k ρ' S' => k ≤ sz nm ∧ (∃ k8 k9 k10, ρ' = [some (T.adr D), some (T.adr z), some (T.int f), some (T.adr F), some (T.str nm), some (T.int way), some (T.adr Lf), some (T.adr R), k8, k9, k10]) ∧
        ∃ (l : List (Option Nat)) (ns : List Int), l.length = k ∧ (∀ o ∈ l, ∀ j, o = some j → j < 12) ∧ (ns.length + k ≥ sz nm ∧ ns.length ≤ 12) ∧ (∀ y ∈ ns, 0 ≤ y ∧ y < 12) ∧ S' Lf = some (.lst (ns.map T.int)) ∧ S' R = some (.lst (rowsT nm 0 l)) ∧ S' F = some (.lst (rws.map mapT)) ∧ S' G = some (.lst (ys.map T.str)) ∧ Fr D C S S', ?_, ?_⟩⟩
      · refine ⟨Nat.zero_le _, ⟨_, _, _, rfl⟩, [], ns0, rfl, (by intro o ho; cases ho), by omega, fun y hy => ?_, hL5, hRR, r3'', r4'', f5⟩
        have := b0 y hy
        omega
      · rintro k ρ' S' ⟨hk', ⟨k8, k9, k10, rfl⟩, l, ns, a1, a2, a3, a4, a5, a6, a7, a8, fr'⟩
        refine ⟨trivial, ?_⟩
        cases hx : (rngT 0 (((sz nm : Nat) : Int)).toNat)[k]? with
        | none =>
          have := rng_none hx
          have hke : k = sz nm := by have : (((sz nm : Nat) : Int)).toNat = sz nm := rfl; omega
          simp only []
          rw [hv6]
          try simp only [tsNx, tsSeq, tsBrk, tsCt, tsDrop, tsRet, tsRetN, tsIf, tsAsg, tgN, tgsNil, tgsCons, tgTup, tgSub, tsFor, tsWhile, tiSeq, tiRng1, tiRng2, tiZip, tb, tv, tc, tac, tan, ttup, tlst, tq, tand, tor, tnot, tife, tandV, torV, tnotV, tneg, tsl, tno, tpt, tcall, tbi, tml, tml0, tmj, tisi, tlRev, tlRng1, tdisp, tps, tlc, ttYes, bt1, btN, setsT, wipeT, endT, List.getElem?_cons_zero, List.getElem?_cons_succ, List.set_cons_zero, List.set_cons_succ]
          refine ⟨st_isl a7, ?_⟩
          refine st_tupl a6 ?_
          refine ⟨z4000 (by simp), z4000 (by simp), ?_⟩
          have hlen' : rws.length = (ys.take i).length := by have := congrArg List.length r1; rwa [List.length_map] at this
          have hyn : ys.length = names.length := hperm.length_eq
          rw [List.length_take] at hlen'
          refine st_app a7 (by rw [List.length_map]; exact Nat.lt_of_lt_of_le (show rws.length < 100 by omega) (by decide)) fun S6 u6 => ?_
          refine ⟨by omega, ⟨_, _, _, _, _, _, _, rfl⟩, rws ++ [(nm, l)], by rw [List.map_append, r1, htake]; rfl, ?_, by rw [u6.at_, List.map_append]; rfl, u6.get (Ne.symm hFG) a8, fr_upd dk fr' hFS u6⟩
          intro r hr
          rcases List.mem_append.mp hr with h | h
          · exact r2 r h
          · rw [List.mem_singleton.mp h]; exact ⟨by rw [a1, hke], a2⟩
        | some x =>
          obtain ⟨j1, rfl⟩ := rng_some hx
          have hks : k < sz nm := j1
          have hke : (0 : Int) + (k : Int) = (k : Int) := Int.zero_add _
          rw [hke]
          try simp only [tsNx, tsSeq, tsBrk, tsCt, tsDrop, tsRet, tsRetN, tsIf, tsAsg, tgN, tgsNil, tgsCons, tgTup, tgSub, tsFor, tsWhile, tiSeq, tiRng1, tiRng2, tiZip, tb, tv, tc, tac, tan, ttup, tlst, tq, tand, tor, tnot, tife, tandV, torV, tnotV, tneg, tsl, tno, tpt, tcall, tbi, tml, tml0, tmj, tisi, tlRev, tlRng1, tdisp, tps, tlc, ttYes, bt1, btN, setsT, wipeT, endT, List.getElem?_cons_zero, List.getElem?_cons_succ, List.set_cons_zero, List.set_cons_succ]
          rw [hb2]
          refine seq_cut fun v7 hv7 => ?_
          try simp only [tsNx, tsSeq, tsBrk, tsCt, tsDrop, tsRet, tsRetN, tsIf, tsAsg, tgN, tgsNil, tgsCons, tgTup, tgSub, tsFor, tsWhile, tiSeq, tiRng1, tiRng2, tiZip, tb, tv, tc, tac, tan, ttup, tlst, tq, tand, tor, tnot, tife, tandV, torV, tnotV, tneg, tsl, tno, tpt, tcall, tbi, tml, tml0, tmj, tisi, tlRev, tlRng1, tdisp, tps, tlc, ttYes, bt1, btN, setsT, wipeT, endT, List.getElem?_cons_zero, List.getElem?_cons_succ, List.set_cons_zero, List.set_cons_succ]
          refine st_ixd (fr'.kp _ _ nD nC hz) rfl g1 ?_
          refine ⟨rfl, D, C, _, rfl, fr'.dk, by omega, by omega, fun to S6 t0 t1 f6' => ?_⟩
          have f6 := fr'.trans f6'
          refine st_lst (by simp) (nw fun p S7 hp hpp x7 => ?_)
          try simp only [ev_t0, ev_t1, ev_t2, ev_eqs, ev_eqi, ev_intb, ev_inti, ev_add, ev_sub, ev_lt, ev_gt, ev_sl1, ev_in2, ev_lent, ev_isn, Bool.or_false, Bool.or_true, Bool.false_or, Bool.true_or, eqG_f, eqG_t, kq, Bool.not_true, Bool.not_false, if_true, if_false, ite_true, ite_false, reduceIte, s_num_num, s_num_truth, s_num_open, s_num_list, s_num_pair, s_num_either, s_num_left, s_num_right, s_num_thing, s_num_fault, s_num_worth, s_num_table, s_truth_num, s_truth_truth, s_truth_open, s_truth_list, s_truth_pair, s_truth_either, s_truth_left, s_truth_right, s_truth_thing, s_truth_fault, s_truth_worth, s_truth_table, s_open_num, s_open_truth, s_open_open, s_open_list, s_open_pair, s_open_either, s_open_left, s_open_right, s_open_thing, s_open_fault, s_open_worth, s_open_table, s_list_num, s_list_truth, s_list_open, s_list_list, s_list_pair, s_list_either, s_list_left, s_list_right, s_list_thing, s_list_fault, s_list_worth, s_list_table, s_pair_num, s_pair_truth, s_pair_open, s_pair_list, s_pair_pair, s_pair_either, s_pair_left, s_pair_right, s_pair_thing, s_pair_fault, s_pair_worth, s_pair_table, s_either_num, s_either_truth, s_either_open, s_either_list, s_either_pair, s_either_either, s_either_left, s_either_right, s_either_thing, s_either_fault, s_either_worth, s_either_table, s_left_num, s_left_truth, s_left_open, s_left_list, s_left_pair, s_left_either, s_left_left, s_left_right, s_left_thing, s_left_fault, s_left_worth, s_left_table, s_right_num, s_right_truth, s_right_open, s_right_list, s_right_pair, s_right_either, s_right_left, s_right_right, s_right_thing, s_right_fault, s_right_worth, s_right_table, s_thing_num, s_thing_truth, s_thing_open, s_thing_list, s_thing_pair, s_thing_either, s_thing_left, s_thing_right, s_thing_thing, s_thing_fault, s_thing_worth, s_thing_table, s_fault_num, s_fault_truth, s_fault_open, s_fault_list, s_fault_pair, s_fault_either, s_fault_left, s_fault_right, s_fault_thing, s_fault_fault, s_fault_worth, s_fault_table, s_worth_num, s_worth_truth, s_worth_open, s_worth_list, s_worth_pair, s_worth_either, s_worth_left, s_worth_right, s_worth_thing, s_worth_fault, s_worth_worth, s_worth_table, s_table_num, s_table_truth, s_table_open, s_table_list, s_table_pair, s_table_either, s_table_left, s_table_right, s_table_thing, s_table_fault, s_table_worth, s_table_table]
          have f7 := f6.ex x7
          obtain ⟨w, ew, hw⟩ : ∃ w : Int, atI [T.int to, T.int 0] (if (way == 2) = true then (1 : Int) else 0) = some (.int w) ∧ 0 ≤ w ∧ w < 12 := by
            cases (way == 2) with
            | true => exact ⟨0, at2_1, by omega, by omega⟩
            | false => exact ⟨to, at2_0, by omega, by omega⟩
          refine st_ixl hpp ew ?_
          have kp7 : ∀ a o, a ≠ D → a ≠ C → S' a = some o → S7 a = some o := fun a o h1 h2 h => x7 _ _ (f6'.kp _ _ h1 h2 h)
          have c5 := kp7 _ _ L1 L2 a5
          have c6 := kp7 _ _ R1 R2 a6
          have c7 := kp7 _ _ F1 F2 a7
          have c8 := kp7 _ _ G1 G2 a8
          clear kp7 hpp x7 hp ew f6' f6
          rw [hv7]
          refine seq_cut fun v8 hv8 => ends_cut (t := tsSeq _ v8) fun E hE => ?_
          -- behind the choice of what it is mapped to
          have tail : ∀ (w : Int) (ns' : List Int) (S8 : Sto), 0 ≤ w → w < 12 → (ns'.length + (k + 1) ≥ sz nm ∧ ns'.length ≤ 12) → (∀ y ∈ ns', 0 ≤ y ∧ y < 12) → S8 Lf = some (.lst (ns'.map T.int)) → S8 R = some (.lst (rowsT nm 0 l)) → S8 F = some (.lst (rws.map mapT)) → S8 G = some (.lst (ys.map T.str)) → Fr D C S S8 →
              v8 E [some (T.adr D), some (T.adr z), some (T.int f), some (T.adr F), some (T.str nm), some (T.int way), some (T.adr Lf), some (T.adr R), some (T.int (k : Int)), some (T.int w), k10] S8 := by
            intro w ns' S8 hw0 hw1 hn hb d5 d6 d7 d8 f8
            rw [hv8]
            refine seq_cut fun v9 hv9 => ?_
            -- the row is put down
            have put : ∀ (fl : Bool) (S9 : Sto), S9 Lf = some (.lst (ns'.map T.int)) → S9 R = some (.lst (rowsT nm 0 l)) → S9 F = some (.lst (rws.map mapT)) → S9 G = some (.lst (ys.map T.str)) → Fr D C S S9 →
                v9 E [some (T.adr D), some (T.adr z), some (T.int f), some (T.adr F), some (T.str nm), some (T.int way), some (T.adr Lf), some (T.adr R), some (T.int (k : Int)), some (T.int w), some (T.bl fl)] S9 := by
              intro fl S9 d5 d6 d7 d8 f9
              rw [hv9, hE]
              try simp only [tsNx, tsSeq, tsBrk, tsCt, tsDrop, tsRet, tsRetN, tsIf, tsAsg, tgN, tgsNil, tgsCons, tgTup, tgSub, tsFor, tsWhile, tiSeq, tiRng1, tiRng2, tiZip, tb, tv, tc, tac, tan, ttup, tlst, tq, tand, tor, tnot, tife, tandV, torV, tnotV, tneg, tsl, tno, tpt, tcall, tbi, tml, tml0, tmj, tisi, tlRev, tlRng1, tdisp, tps, tlc, ttYes, bt1, btN, setsT, wipeT, endT, List.getElem?_cons_zero, List.getElem?_cons_succ, List.set_cons_zero, List.set_cons_succ]
              refine ⟨st_isl d6, z4000 (by simp), ?_⟩
              try simp only [ev_t0, ev_t1, ev_t2, ev_eqs, ev_eqi, ev_intb, ev_inti, ev_add, ev_sub, ev_lt, ev_gt, ev_sl1, ev_in2, ev_lent, ev_isn, Bool.or_false, Bool.or_true, Bool.false_or, Bool.true_or, eqG_f, eqG_t, kq, Bool.not_true, Bool.not_false, if_true, if_false, ite_true, ite_false, reduceIte, s_num_num, s_num_truth, s_num_open, s_num_list, s_num_pair, s_num_either, s_num_left, s_num_right, s_num_thing, s_num_fault, s_num_worth, s_num_table, s_truth_num, s_truth_truth, s_truth_open, s_truth_list, s_truth_pair, s_truth_either, s_truth_left, s_truth_right, s_truth_thing, s_truth_fault, s_truth_worth, s_truth_table, s_open_num, s_open_truth, s_open_open, s_open_list, s_open_pair, s_open_either, s_open_left, s_open_right, s_open_thing, s_open_fault, s_open_worth, s_open_table, s_list_num, s_list_truth, s_list_open, s_list_list, s_list_pair, s_list_either, s_list_left, s_list_right, s_list_thing, s_list_fault, s_list_worth, s_list_table, s_pair_num, s_pair_truth, s_pair_open, s_pair_list, s_pair_pair, s_pair_either, s_pair_left, s_pair_right, s_pair_thing, s_pair_fault, s_pair_worth, s_pair_table, s_either_num, s_either_truth, s_either_open, s_either_list, s_either_pair, s_either_either, s_either_left, s_either_right, s_either_thing, s_either_fault, s_either_worth, s_either_table, s_left_num, s_left_truth, s_left_open, s_left_list, s_left_pair, s_left_either, s_left_left, s_left_right, s_left_thing, s_left_fault, s_left_worth, s_left_table, s_right_num, s_right_truth, s_right_open, s_right_list, s_right_pair, s_right_either, s_right_left, s_right_right, s_right_thing, s_right_fault, s_right_worth, s_right_table, s_thing_num, s_thing_truth, s_thing_open, s_thing_list, s_thing_pair, s_thing_either, s_thing_left, s_thing_right, s_thing_thing, s_thing_fault, s_thing_worth, s_thing_table, s_fault_num, s_fault_truth, s_fault_open, s_fault_list, s_fault_pair, s_fault_either, s_fault_left, s_fault_right, s_fault_thing, s_fault_fault, s_fault_worth, s_fault_table, s_worth_num, s_worth_truth, s_worth_open, s_worth_list, s_worth_pair, s_worth_either, s_worth_left, s_worth_right, s_worth_thing, s_worth_fault, s_worth_worth, s_worth_table, s_table_num, s_table_truth, s_table_open, s_table_list, s_table_pair, s_table_either, s_table_left, s_table_right, s_table_thing, s_table_fault, s_table_worth, s_table_table]
              have fin : ∀ o : Option Nat, (∀ j, o = some j → j < 12) → oAppend (T.adr R) (.tup [.tup [.str "thing", .str nm, .int (k : Int)], toldT nm o]) S9 fun x S1 => (k + 1 ≤ sz nm ∧ (∃ k8 k9 k10_1, [some (T.adr D), some (T.adr z), some (T.int f), some (T.adr F), some (T.str nm), some (T.int way), some (T.adr Lf), some (T.adr R), some (T.int (k : Int)), some (T.int w), some (T.bl fl)] = [some (T.adr D), some (T.adr z), some (T.int f), some (T.adr F), some (T.str nm), some (T.int way), some (T.adr Lf), some (T.adr R), k8, k9, k10_1]) ∧
                  ∃ (l : List (Option Nat)) (ns : List Int), l.length = k + 1 ∧ (∀ o ∈ l, ∀ j, o = some j → j < 12) ∧ (ns.length + (k + 1) ≥ sz nm ∧ ns.length ≤ 12) ∧ (∀ y ∈ ns, 0 ≤ y ∧ y < 12) ∧ S1 Lf = some (.lst (ns.map T.int)) ∧ S1 R = some (.lst (rowsT nm 0 l)) ∧ S1 F = some (.lst (rws.map mapT)) ∧ S1 G = some (.lst (ys.map T.str)) ∧ Fr D C S S1) := by
                intro o ho
                refine st_app d6 (by rw [rowsT_len]; exact Nat.lt_of_lt_of_le (show l.length < 100 by omega) (by decide)) fun S6 u6 => ?_
                refine ⟨j1, ⟨_, _, _, rfl⟩, l ++ [o], ns', by simp [a1], ?_, hn, hb, u6.get (Ne.symm hRL) d5, ?_, u6.get hFR d7, u6.get hGR d8, fr_upd dk f9 hRS u6⟩
                · intro o' ho'
                  rcases List.mem_append.mp ho' with h | h
                  · exact a2 o' h
                  · rw [List.mem_singleton.mp h]; exact ho
                · rw [u6.at_, rowsT_snoc, a1, Nat.zero_add]
              cases fl with
              | true =>
                simp only []
                refine ⟨z4000 (by simp), z4000 (by simp), ?_⟩
                exact fin none (by intro j hj; cases hj)
              | false =>
                simp only []
                refine ⟨z4000 (by simp), z4000 (by simp), ?_⟩
                have ew : w = ((w.toNat : Nat) : Int) := by omega
                have := fin (some w.toNat) (by intro j hj; cases hj; omega)
                simp only [toldT] at this
                rw [← ew] at this
                exact this
            try simp only [tsNx, tsSeq, tsBrk, tsCt, tsDrop, tsRet, tsRetN, tsIf, tsAsg, tgN, tgsNil, tgsCons, tgTup, tgSub, tsFor, tsWhile, tiSeq, tiRng1, tiRng2, tiZip, tb, tv, tc, tac, tan, ttup, tlst, tq, tand, tor, tnot, tife, tandV, torV, tnotV, tneg, tsl, tno, tpt, tcall, tbi, tml, tml0, tmj, tisi, tlRev, tlRng1, tdisp, tps, tlc, ttYes, bt1, btN, setsT, wipeT, endT, List.getElem?_cons_zero, List.getElem?_cons_succ, List.set_cons_zero, List.set_cons_succ]
            try simp only [ev_t0, ev_t1, ev_t2, ev_eqs, ev_eqi, ev_intb, ev_inti, ev_add, ev_sub, ev_lt, ev_gt, ev_sl1, ev_in2, ev_lent, ev_isn, Bool.or_false, Bool.or_true, Bool.false_or, Bool.true_or, eqG_f, eqG_t, kq, Bool.not_true, Bool.not_false, if_true, if_false, ite_true, ite_false, reduceIte, s_num_num, s_num_truth, s_num_open, s_num_list, s_num_pair, s_num_either, s_num_left, s_num_right, s_num_thing, s_num_fault, s_num_worth, s_num_table, s_truth_num, s_truth_truth, s_truth_open, s_truth_list, s_truth_pair, s_truth_either, s_truth_left, s_truth_right, s_truth_thing, s_truth_fault, s_truth_worth, s_truth_table, s_open_num, s_open_truth, s_open_open, s_open_list, s_open_pair, s_open_either, s_open_left, s_open_right, s_open_thing, s_open_fault, s_open_worth, s_open_table, s_list_num, s_list_truth, s_list_open, s_list_list, s_list_pair, s_list_either, s_list_left, s_list_right, s_list_thing, s_list_fault, s_list_worth, s_list_table, s_pair_num, s_pair_truth, s_pair_open, s_pair_list, s_pair_pair, s_pair_either, s_pair_left, s_pair_right, s_pair_thing, s_pair_fault, s_pair_worth, s_pair_table, s_either_num, s_either_truth, s_either_open, s_either_list, s_either_pair, s_either_either, s_either_left, s_either_right, s_either_thing, s_either_fault, s_either_worth, s_either_table, s_left_num, s_left_truth, s_left_open, s_left_list, s_left_pair, s_left_either, s_left_left, s_left_right, s_left_thing, s_left_fault, s_left_worth, s_left_table, s_right_num, s_right_truth, s_right_open, s_right_list, s_right_pair, s_right_either, s_right_left, s_right_right, s_right_thing, s_right_fault, s_right_worth, s_right_table, s_thing_num, s_thing_truth, s_thing_open, s_thing_list, s_thing_pair, s_thing_either, s_thing_left, s_thing_right, s_thing_thing, s_thing_fault, s_thing_worth, s_thing_table, s_fault_num, s_fault_truth, s_fault_open, s_fault_list, s_fault_pair, s_fault_either, s_fault_left, s_fault_right, s_fault_thing, s_fault_fault, s_fault_worth, s_fault_table, s_worth_num, s_worth_truth, s_worth_open, s_worth_list, s_worth_pair, s_worth_either, s_worth_left, s_worth_right, s_worth_thing, s_worth_fault, s_worth_worth, s_worth_table, s_table_num, s_table_truth, s_table_open, s_table_list, s_table_pair, s_table_either, s_table_left, s_table_right, s_table_thing, s_table_fault, s_table_worth, s_table_table]
            cases (f == 1) with
            | false =>
              simp only []
              exact put false S8 d5 d6 d7 d8 f8
            | true =>
              simp only []
              refine ⟨rfl, D, C, _, rfl, f8.dk, by omega, by omega, fun v S9 v0 v1 f9 => ?_⟩
              try simp only [ev_t0, ev_t1, ev_t2, ev_eqs, ev_eqi, ev_intb, ev_inti, ev_add, ev_sub, ev_lt, ev_gt, ev_sl1, ev_in2, ev_lent, ev_isn, Bool.or_false, Bool.or_true, Bool.false_or, Bool.true_or, eqG_f, eqG_t, kq, Bool.not_true, Bool.not_false, if_true, if_false, ite_true, ite_false, reduceIte, s_num_num, s_num_truth, s_num_open, s_num_list, s_num_pair, s_num_either, s_num_left, s_num_right, s_num_thing, s_num_fault, s_num_worth, s_num_table, s_truth_num, s_truth_truth, s_truth_open, s_truth_list, s_truth_pair, s_truth_either, s_truth_left, s_truth_right, s_truth_thing, s_truth_fault, s_truth_worth, s_truth_table, s_open_num, s_open_truth, s_open_open, s_open_list, s_open_pair, s_open_either, s_open_left, s_open_right, s_open_thing, s_open_fault, s_open_worth, s_open_table, s_list_num, s_list_truth, s_list_open, s_list_list, s_list_pair, s_list_either, s_list_left, s_list_right, s_list_thing, s_list_fault, s_list_worth, s_list_table, s_pair_num, s_pair_truth, s_pair_open, s_pair_list, s_pair_pair, s_pair_either, s_pair_left, s_pair_right, s_pair_thing, s_pair_fault, s_pair_worth, s_pair_table, s_either_num, s_either_truth, s_either_open, s_either_list, s_either_pair, s_either_either, s_either_left, s_either_right, s_either_thing, s_either_fault, s_either_worth, s_either_table, s_left_num, s_left_truth, s_left_open, s_left_list, s_left_pair, s_left_either, s_left_left, s_left_right, s_left_thing, s_left_fault, s_left_worth, s_left_table, s_right_num, s_right_truth, s_right_open, s_right_list, s_right_pair, s_right_either, s_right_left, s_right_right, s_right_thing, s_right_fault, s_right_worth, s_right_table, s_thing_num, s_thing_truth, s_thing_open, s_thing_list, s_thing_pair, s_thing_either, s_thing_left, s_thing_right, s_thing_thing, s_thing_fault, s_thing_worth, s_thing_table, s_fault_num, s_fault_truth, s_fault_open, s_fault_list, s_fault_pair, s_fault_either, s_fault_left, s_fault_right, s_fault_thing, s_fault_fault, s_fault_worth, s_fault_table, s_worth_num, s_worth_truth, s_worth_open, s_worth_list, s_worth_pair, s_worth_either, s_worth_left, s_worth_right, s_worth_thing, s_worth_fault, s_worth_worth, s_worth_table, s_table_num, s_table_truth, s_table_open, s_table_list, s_table_pair, s_table_either, s_table_left, s_table_right, s_table_thing, s_table_fault, s_table_worth, s_table_table]
              exact put (v == 5) S9 (f9.kp _ _ L1 L2 d5) (f9.kp _ _ R1 R2 d6) (f9.kp _ _ F1 F2 d7) (f9.kp _ _ G1 G2 d8) (f8.trans f9)
          try simp only [tsNx, tsSeq, tsBrk, tsCt, tsDrop, tsRet, tsRetN, tsIf, tsAsg, tgN, tgsNil, tgsCons, tgTup, tgSub, tsFor, tsWhile, tiSeq, tiRng1, tiRng2, tiZip, tb, tv, tc, tac, tan, ttup, tlst, tq, tand, tor, tnot, tife, tandV, torV, tnotV, tneg, tsl, tno, tpt, tcall, tbi, tml, tml0, tmj, tisi, tlRev, tlRng1, tdisp, tps, tlc, ttYes, bt1, btN, setsT, wipeT, endT, List.getElem?_cons_zero, List.getElem?_cons_succ, List.set_cons_zero, List.set_cons_succ]
          try simp only [ev_t0, ev_t1, ev_t2, ev_eqs, ev_eqi, ev_intb, ev_inti, ev_add, ev_sub, ev_lt, ev_gt, ev_sl1, ev_in2, ev_lent, ev_isn, Bool.or_false, Bool.or_true, Bool.false_or, Bool.true_or, eqG_f, eqG_t, kq, Bool.not_true, Bool.not_false, if_true, if_false, ite_true, ite_false, reduceIte, s_num_num, s_num_truth, s_num_open, s_num_list, s_num_pair, s_num_either, s_num_left, s_num_right, s_num_thing, s_num_fault, s_num_worth, s_num_table, s_truth_num, s_truth_truth, s_truth_open, s_truth_list, s_truth_pair, s_truth_either, s_truth_left, s_truth_right, s_truth_thing, s_truth_fault, s_truth_worth, s_truth_table, s_open_num, s_open_truth, s_open_open, s_open_list, s_open_pair, s_open_either, s_open_left, s_open_right, s_open_thing, s_open_fault, s_open_worth, s_open_table, s_list_num, s_list_truth, s_list_open, s_list_list, s_list_pair, s_list_either, s_list_left, s_list_right, s_list_thing, s_list_fault, s_list_worth, s_list_table, s_pair_num, s_pair_truth, s_pair_open, s_pair_list, s_pair_pair, s_pair_either, s_pair_left, s_pair_right, s_pair_thing, s_pair_fault, s_pair_worth, s_pair_table, s_either_num, s_either_truth, s_either_open, s_either_list, s_either_pair, s_either_either, s_either_left, s_either_right, s_either_thing, s_either_fault, s_either_worth, s_either_table, s_left_num, s_left_truth, s_left_open, s_left_list, s_left_pair, s_left_either, s_left_left, s_left_right, s_left_thing, s_left_fault, s_left_worth, s_left_table, s_right_num, s_right_truth, s_right_open, s_right_list, s_right_pair, s_right_either, s_right_left, s_right_right, s_right_thing, s_right_fault, s_right_worth, s_right_table, s_thing_num, s_thing_truth, s_thing_open, s_thing_list, s_thing_pair, s_thing_either, s_thing_left, s_thing_right, s_thing_thing, s_thing_fault, s_thing_worth, s_thing_table, s_fault_num, s_fault_truth, s_fault_open, s_fault_list, s_fault_pair, s_fault_either, s_fault_left, s_fault_right, s_fault_thing, s_fault_fault, s_fault_worth, s_fault_table, s_worth_num, s_worth_truth, s_worth_open, s_worth_list, s_worth_pair, s_worth_either, s_worth_left, s_worth_right, s_worth_thing, s_worth_fault, s_worth_worth, s_worth_table, s_table_num, s_table_truth, s_table_open, s_table_list, s_table_pair, s_table_either, s_table_left, s_table_right, s_table_thing, s_table_fault, s_table_worth, s_table_table]
          cases (way == 1) with
          | false =>
            simp only []
            exact tail w ns S7 hw.1 hw.2 (by omega) a4 c5 c6 c7 c8 f7
          | true =>
            simp only []
            refine ⟨st_isl c5, ?_⟩
            refine st_lenl c5 ?_
            have hnl : 1 ≤ ns.length := by omega
            refine ⟨rfl, D, C, _, rfl, f7.dk, by rw [List.length_map]; omega, by rw [List.length_map]; omega, fun v S8 v0 v1 f8 => ?_⟩
            rw [List.length_map] at v1
            have d5 := f8.kp _ _ L1 L2 c5
            have hvn : v.toNat < ns.length := by omega
            refine st_popAt (y := .int ns[v.toNat]) d5 (by omega) (by omega) (seqIx v0 (by rw [List.length_map]; exact v1)) (by rw [List.getElem?_map, List.getElem?_eq_getElem hvn]; rfl) fun S9 u9 => ?_
            have hy := a4 ns[v.toNat] (List.getElem_mem hvn)
            refine tail _ (ns.eraseIdx v.toNat) S9 hy.1 hy.2 ?_ (fun y hy => a4 y (List.mem_of_mem_eraseIdx hy)) ?_ (u9.get hRL (f8.kp _ _ R1 R2 c6)) (u9.get hFL (f8.kp _ _ F1 F2 c7)) (u9.get hGL (f8.kp _ _ G1 G2 c8)) (fr_upd dk (f7.trans f8) hLS u9)
            · rw [List.length_eraseIdx_of_lt hvn]; omega
            · rw [u9.at_]; congr 2; exact (erase_map T.int ns v.toNat)
end LAW
set_option Elab.async false
set_option linter.all false
set_option maxRecDepth 100000
set_option maxHeartbeats 4000000
/-! TLC7: the program's own functions: table_for, mapped_all. -/
namespace LAW
open PySem PySem.Spec PyProof.Rows L2 TL
abbrev tkey (x : Str) (k : Nat) : List Key := [.inr (Str.ofString "thing"), .inr x, .inl (k : Int)]
def prsOf (x : Str) : Nat → List (Option Nat) → List (T × T)
  | _, [] => []
  | k, o :: r => (.tup [.str (Str.ofString "thing"), .str x, .int (k : Int)], toldT x o) :: prsOf x (k + 1) r
def kvsOf (x : Str) : Nat → List (Option Nat) → List (List Key × T)
  | _, [] => []
  | k, o :: r => (tkey x k, toldT x o) :: kvsOf x (k + 1) r
theorem pairs_rows (x : Str) : ∀ (l : List (Option Nat)) (k : Nat), pairsT (rowsT x k l) = some (prsOf x k l)
  | [], _ => rfl
  | o :: r, k => by
    show (pairsT (rowsT x (k + 1) r)).map _ = _
    rw [pairs_rows x r (k + 1)]; rfl
theorem keysX_rows (x : Str) : ∀ (l : List (Option Nat)) (k : Nat), keysX (prsOf x k l) = some (kvsOf x k l)
  | [], _ => rfl
  | o :: r, k => by
    show ((keysT [.str (Str.ofString "thing"), .str x, .int (k : Int)]).bind fun ks => (keysX (prsOf x (k + 1) r)).map ((ks, toldT x o) :: ·)) = _
    rw [keysX_rows x r (k + 1)]; rfl
theorem prs_len (x : Str) : ∀ (l : List (Option Nat)) (k : Nat), (prsOf x k l).length = l.length
  | [], _ => rfl
  | o :: r, k => by rw [prsOf, List.length_cons, List.length_cons, prs_len x r (k + 1)]
theorem tkey_ne {x : Str} {i j : Nat} (h : i ≠ j) : tkey x i ≠ tkey x j := fun e => by
  injection e with _ e
  injection e with _ e
  injection e with e _
  injection e with e
  exact h (by omega)
theorem valT_app (a b : List (List Key × T)) (k : List Key) (h : valT a k = none) : valT (a ++ b) k = valT b k := by
  unfold valT at h ⊢
  rw [List.find?_append]
  cases e : a.find? (fun kv => decide (kv.1 = k)) with
  | none => rfl
  | some v => rw [e] at h; cases h
theorem valT_one {x : Str} {i j : Nat} {t : T} (h : i ≠ j) : valT [(tkey x i, t)] (tkey x j) = none := by
  rw [valT_neg (tkey_ne h)]; rfl
theorem merge_rows (x : Str) : ∀ (l : List (Option Nat)) (k : Nat) (acc : List (List Key × T)), (∀ j, k ≤ j → valT acc (tkey x j) = none) → mergeT acc (kvsOf x k l) = acc ++ kvsOf x k l
  | [], k, acc, _ => by rw [kvsOf, List.append_nil]; rfl
  | o :: r, k, acc, h => by
    show mergeT (putT acc (tkey x k) (toldT x o)) (kvsOf x (k + 1) r) = _
    rw [putT_new _ (h k (Nat.le_refl _)), merge_rows x r (k + 1) _ fun j hj => by rw [valT_app _ _ _ (h j (by omega)), valT_one (by omega)]]
    rw [kvsOf, List.append_assoc]; rfl
theorem val_rows (x : Str) : ∀ (l : List (Option Nat)) (k j : Nat) (o : Option Nat), l[j]? = some o → valT (kvsOf x k l) (tkey x (k + j)) = some (toldT x o)
  | [], _, _, _, e => by simp at e
  | p :: r, k, 0, o, e => by
    have : p = o := by simpa using e
    subst this
    rw [kvsOf]; exact valT_pos rfl
  | p :: r, k, j + 1, o, e => by
    rw [kvsOf, valT_neg (tkey_ne (by omega)), show k + (j + 1) = k + 1 + j by omega]
    exact val_rows x r (k + 1) j o (by simpa using e)
theorem val_at {x : Str} {l : List (Option Nat)} {j : Nat} (h : j < l.length) : valT (mergeT [] (kvsOf x 0 l)) (tkey x j) = some (toldT x l[j]) := by
  rw [merge_rows x l 0 [] (fun _ _ => rfl), List.nil_append]
  have := val_rows x l 0 j l[j] (List.getElem?_eq_getElem h)
  rwa [Nat.zero_add] at this
theorem siz_of {rows : Rows} {x : Str} {r : Str × List (Option Nat)} (h : rows.find? (fun r => decide (r.1 = x)) = some r) : siz rows x = r.2.length := by unfold siz; rw [h]; rfl
theorem tell_of {rows : Rows} {x : Str} {r : Str × List (Option Nat)} (h : rows.find? (fun r => decide (r.1 = x)) = some r) {k : Nat} (hk : k < r.2.length) : tell rows x k = r.2[k] := by
  unfold tell
  rw [h]
  show (r.2[k]?).join = _
  rw [List.getElem?_eq_getElem hk]; rfl
theorem siz_some {rows : Rows} {x : Str} (h : 1 ≤ siz rows x) : ∃ r, rows.find? (fun r => decide (r.1 = x)) = some r := by
  unfold siz at h
  cases e : rows.find? (fun r => decide (r.1 = x)) with
  | none => rw [e] at h; simp at h
  | some r => exact ⟨r, rfl⟩
theorem find_at {rows : Rows} {x : Str} {i : Nat} {r : Str × List (Option Nat)} (hb : ∀ j q, j < i → rows[j]? = some q → q.1 ≠ x) (hi : rows[i]? = some r) (hr : r.1 = x) : rows.find? (fun r => decide (r.1 = x)) = some r := by
  induction rows generalizing i with
  | nil => simp at hi
  | cons p ps ih =>
    cases i with
    | zero =>
      have : p = r := by simpa using hi
      subst this
      simp [hr]
    | succ i =>
      have hp : p.1 ≠ x := hb 0 p (by omega) rfl
      rw [List.find?_cons, decide_eq_false hp]
      exact ih (i := i) (fun j q hj e => hb (j + 1) q (Nat.succ_lt_succ hj) (by simpa using e)) (by simpa using hi)
theorem vc_table (ts : List T) (S : Sto) (Q : T → Sto → Prop) (hl : ts.length = 2) (h : spTable ts S Q) : t_table_for (endT Q) (startT N_table_for.length ts) S := by
  obtain ⟨rows, x, rfl, ok, hs, q⟩ := h
  rw [show startT N_table_for.length [mapsT rows, T.str x] = [some (mapsT rows), some (T.str x), none, none] from rfl]
  unfold t_table_for mapsT
  refine seq_cut fun v1 hv1 => ?_
  try simp only [tsNx, tsSeq, tsBrk, tsCt, tsDrop, tsRet, tsRetN, tsIf, tsAsg, tgN, tgsNil, tgsCons, tgTup, tgSub, tsFor, tsWhile, tiSeq, tiRng1, tiRng2, tiZip, tb, tv, tc, tac, tan, ttup, tlst, tq, tand, tor, tnot, tife, tandV, torV, tnotV, tneg, tsl, tno, tpt, tcall, tbi, tml, tml0, tmj, tisi, tlRev, tlRng1, tdisp, tps, tlc, ttYes, bt1, btN, setsT, wipeT, endT, List.getElem?_cons_zero, List.getElem?_cons_succ, List.set_cons_zero, List.set_cons_succ]
  obtain ⟨r0, hr0⟩ := siz_some hs
  refine ⟨fun i ρ' S' => S' = S ∧ (∃ k2 k3, ρ' = [some (T.tup (rows.map mapT)), some (T.str x), k2, k3]) ∧ ∀ j q, j < i → rows[j]? = some q → q.1 ≠ x, ⟨rfl, ⟨_, _, rfl⟩, fun j q hj => absurd hj (Nat.not_lt_zero _)⟩, ?_⟩
  rintro i ρ' S' ⟨rfl, ⟨k2, k3, rfl⟩, hb⟩
  refine ⟨trivial, ?_⟩
  cases hx : (rows.map mapT)[i]? with
  | none =>
    have hlen := List.getElem?_eq_none_iff.mp hx
    rw [List.length_map] at hlen
    exfalso
    have hm := List.mem_of_find?_eq_some hr0
    have hp := List.find?_some hr0
    obtain ⟨j, hj, e⟩ := List.getElem_of_mem hm
    exact hb j r0 (Nat.lt_of_lt_of_le hj hlen) (by rw [List.getElem?_eq_getElem hj, e]) (by simpa using hp)
  | some y =>
    rw [List.getElem?_map] at hx
    cases hr : rows[i]? with
    | none => rw [hr] at hx; cases hx
    | some r =>
      rw [hr] at hx
      have hx : mapT r = y := by simpa using hx
      subst hx
      try simp only [mapT, tsNx, tsSeq, tsBrk, tsCt, tsDrop, tsRet, tsRetN, tsIf, tsAsg, tgN, tgsNil, tgsCons, tgTup, tgSub, tsFor, tsWhile, tiSeq, tiRng1, tiRng2, tiZip, tb, tv, tc, tac, tan, ttup, tlst, tq, tand, tor, tnot, tife, tandV, torV, tnotV, tneg, tsl, tno, tpt, tcall, tbi, tml, tml0, tmj, tisi, tlRev, tlRng1, tdisp, tps, tlc, ttYes, bt1, btN, setsT, wipeT, endT, List.getElem?_cons_zero, List.getElem?_cons_succ, List.set_cons_zero, List.set_cons_succ]
      try simp only [ev_t0, ev_t1, ev_t2, ev_eqs, ev_eqi, ev_intb, ev_inti, ev_add, ev_sub, ev_lt, ev_gt, ev_sl1, ev_in2, ev_lent, ev_isn, Bool.or_false, Bool.or_true, Bool.false_or, Bool.true_or, eqG_f, eqG_t, kq, Bool.not_true, Bool.not_false, if_true, if_false, ite_true, ite_false, reduceIte, s_num_num, s_num_truth, s_num_open, s_num_list, s_num_pair, s_num_either, s_num_left, s_num_right, s_num_thing, s_num_fault, s_num_worth, s_num_table, s_truth_num, s_truth_truth, s_truth_open, s_truth_list, s_truth_pair, s_truth_either, s_truth_left, s_truth_right, s_truth_thing, s_truth_fault, s_truth_worth, s_truth_table, s_open_num, s_open_truth, s_open_open, s_open_list, s_open_pair, s_open_either, s_open_left, s_open_right, s_open_thing, s_open_fault, s_open_worth, s_open_table, s_list_num, s_list_truth, s_list_open, s_list_list, s_list_pair, s_list_either, s_list_left, s_list_right, s_list_thing, s_list_fault, s_list_worth, s_list_table, s_pair_num, s_pair_truth, s_pair_open, s_pair_list, s_pair_pair, s_pair_either, s_pair_left, s_pair_right, s_pair_thing, s_pair_fault, s_pair_worth, s_pair_table, s_either_num, s_either_truth, s_either_open, s_either_list, s_either_pair, s_either_either, s_either_left, s_either_right, s_either_thing, s_either_fault, s_either_worth, s_either_table, s_left_num, s_left_truth, s_left_open, s_left_list, s_left_pair, s_left_either, s_left_left, s_left_right, s_left_thing, s_left_fault, s_left_worth, s_left_table, s_right_num, s_right_truth, s_right_open, s_right_list, s_right_pair, s_right_either, s_right_left, s_right_right, s_right_thing, s_right_fault, s_right_worth, s_right_table, s_thing_num, s_thing_truth, s_thing_open, s_thing_list, s_thing_pair, s_thing_either, s_thing_left, s_thing_right, s_thing_thing, s_thing_fault, s_thing_worth, s_thing_table, s_fault_num, s_fault_truth, s_fault_open, s_fault_list, s_fault_pair, s_fault_either, s_fault_left, s_fault_right, s_fault_thing, s_fault_fault, s_fault_worth, s_fault_table, s_worth_num, s_worth_truth, s_worth_open, s_worth_list, s_worth_pair, s_worth_either, s_worth_left, s_worth_right, s_worth_thing, s_worth_fault, s_worth_worth, s_worth_table, s_table_num, s_table_truth, s_table_open, s_table_list, s_table_pair, s_table_either, s_table_left, s_table_right, s_table_thing, s_table_fault, s_table_worth, s_table_table]
      refine ⟨rfl, ?_⟩
      cases e : (r.1 == x) with
      | true =>
        simp only []
        have hrx : r.1 = x := by simpa using e
        have hf := find_at hb hr hrx
        have h12 := (ok.sz r (List.mem_of_getElem? hr)).2.1
        simp only [oDict, sqT?, Option.bind_some, pairs_rows]
        refine ⟨by rw [prs_len]; exact z4000 (by omega), .inr ⟨_, keysX_rows _ _ _, nw fun p S1 hp hpp x1 => q p _ S1 x1 hpp fun k hk => ?_⟩⟩
        rw [siz_of hf] at hk
        rw [tell_of hf hk, ← hrx]
        exact val_at hk
      | false =>
        simp only []
        refine ⟨trivial, ⟨_, _, rfl⟩, fun j q hj he => ?_⟩
        rcases Nat.lt_succ_iff_lt_or_eq.mp hj with h | h
        · exact hb j q h he
        · subst h; rw [hr] at he; cases he; simpa using e
mutual
theorem w_pur : ∀ w : W, w.t.pur = true
  | .num n => by rw [w_num, pur_int]
  | .tru b => by rw [w_tru, pur_bl]
  | .thing x k => by rw [w_thing]; simp only [pur_tup, purs_cons, pur_str, pur_int, purs_nil, Bool.and_true]
  | .lst ws => by rw [w_lst]; simp only [pur_tup, purs_cons, pur_str, purs_nil, Bool.and_true, Bool.true_and]; exact ws_pur ws
  | .left w => by rw [w_left]; simp only [pur_tup, purs_cons, pur_str, purs_nil, Bool.and_true, Bool.true_and]; exact w_pur w
  | .right w => by rw [w_right]; simp only [pur_tup, purs_cons, pur_str, purs_nil, Bool.and_true, Bool.true_and]; exact w_pur w
  | .pair a b => by rw [w_pair]; simp only [pur_tup, purs_cons, pur_str, purs_nil, Bool.and_true, Bool.true_and]; rw [w_pur a, w_pur b]; rfl
theorem ws_pur : ∀ ws : List W, T.purs (ws.map W.t) = true
  | [] => purs_nil
  | w :: ws => by rw [List.map_cons, purs_cons, w_pur w, ws_pur ws]; rfl
end
theorem res_pur : ∀ o : Option W, (resT o).pur = true
  | none => by simp only [resT, pur_tup, purs_cons, pur_str, purs_nil, Bool.and_true]
  | some w => by simp only [resT, pur_tup, purs_cons, pur_str, purs_nil, Bool.and_true, Bool.true_and]; exact w_pur w
theorem fault_d : T.depth (.tup [.str (Str.ofString "fault")]) = 1 := by simp only [depth_tup, depths_cons, depths_nil, depth_str]; rfl
theorem eq_fault : ∀ o : Option W, eqT (resT o) (.tup [.str (Str.ofString "fault")]) = o.isNone
  | none => by simp only [resT, eqT_tup, eqTs_cons, eqTs_nil, eqT_str, s_fault_fault]; rfl
  | some w => by simp only [resT, eqT_tup, eqTs_cons, eqT_str, s_worth_fault]; rfl
theorem mapWs_take (f : Str → Nat → Option Nat) : ∀ (ws : List W), mapWs f ws = none ↔ ∃ (i : Nat) (w : W), ws[i]? = some w ∧ mapW f w = none
  | [] => by unfold mapWs; simp
  | w :: ws => by
    conv => lhs; unfold mapWs
    cases e : mapW f w with
    | none => exact ⟨fun _ => ⟨0, w, rfl, e⟩, fun _ => rfl⟩
    | some x =>
      have ih := mapWs_take f ws
      cases e2 : mapWs f ws with
      | none =>
        refine ⟨fun _ => ?_, fun _ => rfl⟩
        obtain ⟨i, w', h1, h2⟩ := ih.mp e2
        exact ⟨i + 1, w', by simpa using h1, h2⟩
      | some xs =>
        refine ⟨fun h => (by cases h), fun ⟨i, w', h1, h2⟩ => ?_⟩
        cases i with
        | zero =>
          have : w = w' := by simpa using h1
          subst this
          rw [e] at h2; cases h2
        | succ i =>
          have := ih.mpr ⟨i, w', by simpa using h1, h2⟩
          rw [e2] at this; cases this
theorem mapWs_ok (f : Str → Nat → Option Nat) : ∀ (ws vs : List W), ws.length = vs.length → (∀ (i : Nat) (w : W), ws[i]? = some w → mapW f w = vs[i]?) → mapWs f ws = some vs
  | [], [], _, _ => by unfold mapWs; rfl
  | [], _ :: _, h, _ => by simp at h
  | _ :: _, [], h, _ => by simp at h
  | w :: ws, v :: vs, h, q => by
    unfold mapWs
    rw [show mapW f w = some v from q 0 w rfl, mapWs_ok f ws vs (by simpa using h) fun i x e => by simpa using q (i + 1) x (by simpa using e)]
    rfl
theorem sq_ex {S S' : Sto} {x : T} {k : Bool} {xs : List T} (h : sqT? S x = some (k, xs)) (e : Ex S S') : sqT? S' x = some (k, xs) ∧ liveT x xs S' := by
  cases x with
  | adr a =>
    have h : (lstAt S a).map (fun xs => (false, xs)) = some (k, xs) := h
    cases hl : lstAt S a with
    | none => rw [hl] at h; cases h
    | some ys =>
      rw [hl] at h; cases h
      have : lstAt S' a = some xs := by
        unfold lstAt at hl
        split at hl
        · rename_i zs hz; cases hl; exact lstAt_of (e a _ hz)
        · rename_i zs hz; cases hl; exact lstAt_ro (e a _ hz)
        · cases hl
      exact ⟨by show (lstAt S' a).map _ = _; rw [this]; rfl, this⟩
  | tup _ => exact ⟨h, trivial⟩
  | fl _ => exact ⟨h, trivial⟩
  | _ => cases h
theorem vc_all (n : Nat) (ts : List T) (S : Sto) (Q : T → Sto → Prop) (hl : ts.length = 3) (h : spAll n ts S Q) : t_mapped_all n (endT Q) (startT N_mapped_all.length ts) S := by
  obtain ⟨rows, kds, ws, kx, rfl, ok, hk, hln, h12, hh, hhas, q⟩ := h
  rw [show startT N_mapped_all.length [kx, mapsT rows, T.tup (W.ts ws)] = [some kx, some (mapsT rows), some (T.tup (W.ts ws)), none, none, none, none] from rfl, wts_map]
  unfold t_mapped_all
  refine seq_cut fun v1 hv1 => ?_
  try simp only [tsNx, tsSeq, tsBrk, tsCt, tsDrop, tsRet, tsRetN, tsIf, tsAsg, tgN, tgsNil, tgsCons, tgTup, tgSub, tsFor, tsWhile, tiSeq, tiRng1, tiRng2, tiZip, tb, tv, tc, tac, tan, ttup, tlst, tq, tand, tor, tnot, tife, tandV, torV, tnotV, tneg, tsl, tno, tpt, tcall, tbi, tml, tml0, tmj, tisi, tlRev, tlRng1, tdisp, tps, tlc, ttYes, bt1, btN, setsT, wipeT, endT, List.getElem?_cons_zero, List.getElem?_cons_succ, List.set_cons_zero, List.set_cons_succ]
  refine st_nil (nw fun F S1 hF hFF x1 => ?_)
  rw [hv1]
  refine seq_cut fun v2 hv2 => for_cut fun b1 hb1 => ?_
  try simp only [tsNx, tsSeq, tsBrk, tsCt, tsDrop, tsRet, tsRetN, tsIf, tsAsg, tgN, tgsNil, tgsCons, tgTup, tgSub, tsFor, tsWhile, tiSeq, tiRng1, tiRng2, tiZip, tb, tv, tc, tac, tan, ttup, tlst, tq, tand, tor, tnot, tife, tandV, torV, tnotV, tneg, tsl, tno, tpt, tcall, tbi, tml, tml0, tmj, tisi, tlRev, tlRng1, tdisp, tps, tlc, ttYes, bt1, btN, setsT, wipeT, endT, List.getElem?_cons_zero, List.getElem?_cons_succ, List.set_cons_zero, List.set_cons_succ]
  cases hsq : sqT? S kx with
  | none => rw [hsq] at hk; cases hk
  | some p =>
    obtain ⟨kk, xs⟩ := p
    rw [hsq] at hk
    have hk : xs = kds.map Kd.t := by simpa using hk
    subst hk
    have s1 := (sq_ex hsq x1).1
    rw [s1]
    simp only [show sqT? S1 (T.tup (ws.map W.t)) = some (true, ws.map W.t) from rfl]
    refine ⟨fun i ρ' S' => i ≤ ws.length ∧ (∃ k4 k5 k6, ρ' = [some kx, some (mapsT rows), some (T.tup (ws.map W.t)), some (T.adr F), k4, k5, k6]) ∧ ∃ vs : List W, vs.length = i ∧ (∀ j w, j < i → ws[j]? = some w → mapW (tell rows) w = vs[j]?) ∧ S' F = some (.lst (vs.map W.t)) ∧ (∀ a o, a ≠ F → S1 a = some o → S' a = some o), ?_, ?_⟩
    · exact ⟨Nat.zero_le _, ⟨_, _, _, rfl⟩, [], rfl, fun j w hj => absurd hj (Nat.not_lt_zero _), hFF, fun a o _ h => h⟩
    · rintro i ρ' S' ⟨hi, ⟨k4, k5, k6, rfl⟩, vs, g1, g2, g3, g4⟩
      have hEx : Ex S S' := fun a o h => g4 a o (nn hF h) (x1 a o h)
      refine ⟨⟨(sq_ex hsq hEx).2, trivial⟩, ?_⟩
      cases hx : (zipT (kds.map Kd.t) (ws.map W.t))[i]? with
      | none =>
        have := zipT_none hx
        rw [List.length_map, List.length_map] at this
        have hii : i = ws.length := by omega
        simp only []
        rw [hv2]
        try simp only [tsNx, tsSeq, tsBrk, tsCt, tsDrop, tsRet, tsRetN, tsIf, tsAsg, tgN, tgsNil, tgsCons, tgTup, tgSub, tsFor, tsWhile, tiSeq, tiRng1, tiRng2, tiZip, tb, tv, tc, tac, tan, ttup, tlst, tq, tand, tor, tnot, tife, tandV, torV, tnotV, tneg, tsl, tno, tpt, tcall, tbi, tml, tml0, tmj, tisi, tlRev, tlRng1, tdisp, tps, tlc, ttYes, bt1, btN, setsT, wipeT, endT, List.getElem?_cons_zero, List.getElem?_cons_succ, List.set_cons_zero, List.set_cons_succ]
        refine st_tupl g3 ?_
        have e := mapWs_ok (tell rows) ws vs (by omega) (fun j w e => g2 j w (by have := (List.getElem?_eq_some_iff.mp e).1; omega) e)
        have := q S' hEx
        rw [e] at this
        simp only [allT, wts_map] at this
        exact this
      | some y =>
        obtain ⟨a, b, ha, hb, rfl⟩ := zipT_some hx
        rw [List.getElem?_map] at ha hb
        cases hkd : kds[i]? with
        | none => rw [hkd] at ha; cases ha
        | some kd =>
          cases hw : ws[i]? with
          | none => rw [hw] at hb; cases hb
          | some w =>
            rw [hkd] at ha; rw [hw] at hb
            have ha : Kd.t kd = a := by simpa using ha
            have hb : W.t w = b := by simpa using hb
            subst ha; subst hb
            try simp only [tsNx, tsSeq, tsBrk, tsCt, tsDrop, tsRet, tsRetN, tsIf, tsAsg, tgN, tgsNil, tgsCons, tgTup, tgSub, tsFor, tsWhile, tiSeq, tiRng1, tiRng2, tiZip, tb, tv, tc, tac, tan, ttup, tlst, tq, tand, tor, tnot, tife, tandV, torV, tnotV, tneg, tsl, tno, tpt, tcall, tbi, tml, tml0, tmj, tisi, tlRev, tlRng1, tdisp, tps, tlc, ttYes, bt1, btN, setsT, wipeT, endT, List.getElem?_cons_zero, List.getElem?_cons_succ, List.set_cons_zero, List.set_cons_succ]
            refine ⟨rfl, ?_⟩
            rw [hb1]
            refine seq_cut fun v3 hv3 => ?_
            try simp only [tsNx, tsSeq, tsBrk, tsCt, tsDrop, tsRet, tsRetN, tsIf, tsAsg, tgN, tgsNil, tgsCons, tgTup, tgSub, tsFor, tsWhile, tiSeq, tiRng1, tiRng2, tiZip, tb, tv, tc, tac, tan, ttup, tlst, tq, tand, tor, tnot, tife, tandV, torV, tnotV, tneg, tsl, tno, tpt, tcall, tbi, tml, tml0, tmj, tisi, tlRev, tlRng1, tdisp, tps, tlc, ttYes, bt1, btN, setsT, wipeT, endT, List.getElem?_cons_zero, List.getElem?_cons_succ, List.set_cons_zero, List.set_cons_succ]
            refine ⟨rfl, rows, kd, w, rfl, ok, hh kd (List.mem_of_getElem? hkd), hhas i kd w hkd hw, fun S2 x2 => ?_⟩
            have g3' := x2 _ _ g3
            have hEx2 : Ex S S2 := hEx.trans x2
            rw [hv3]
            refine seq_cut fun v4 hv4 => ?_
            try simp only [tsNx, tsSeq, tsBrk, tsCt, tsDrop, tsRet, tsRetN, tsIf, tsAsg, tgN, tgsNil, tgsCons, tgTup, tgSub, tsFor, tsWhile, tiSeq, tiRng1, tiRng2, tiZip, tb, tv, tc, tac, tan, ttup, tlst, tq, tand, tor, tnot, tife, tandV, torV, tnotV, tneg, tsl, tno, tpt, tcall, tbi, tml, tml0, tmj, tisi, tlRev, tlRng1, tdisp, tps, tlc, ttYes, bt1, btN, setsT, wipeT, endT, List.getElem?_cons_zero, List.getElem?_cons_succ, List.set_cons_zero, List.set_cons_succ]
            refine st_eq (res_pur _) (by simp only [pur_tup, purs_cons, pur_str, purs_nil, Bool.and_true]) (by rw [fault_d]; omega) ?_
            rw [eq_fault]
            cases hm : mapW (tell rows) w with
            | none =>
              try simp only [Option.isNone_none, ev_t0, ev_t1, ev_t2, ev_eqs, ev_eqi, ev_intb, ev_inti, ev_add, ev_sub, ev_lt, ev_gt, ev_sl1, ev_in2, ev_lent, ev_isn, Bool.or_false, Bool.or_true, Bool.false_or, Bool.true_or, eqG_f, eqG_t, kq, Bool.not_true, Bool.not_false, if_true, if_false, ite_true, ite_false, reduceIte, s_num_num, s_num_truth, s_num_open, s_num_list, s_num_pair, s_num_either, s_num_left, s_num_right, s_num_thing, s_num_fault, s_num_worth, s_num_table, s_truth_num, s_truth_truth, s_truth_open, s_truth_list, s_truth_pair, s_truth_either, s_truth_left, s_truth_right, s_truth_thing, s_truth_fault, s_truth_worth, s_truth_table, s_open_num, s_open_truth, s_open_open, s_open_list, s_open_pair, s_open_either, s_open_left, s_open_right, s_open_thing, s_open_fault, s_open_worth, s_open_table, s_list_num, s_list_truth, s_list_open, s_list_list, s_list_pair, s_list_either, s_list_left, s_list_right, s_list_thing, s_list_fault, s_list_worth, s_list_table, s_pair_num, s_pair_truth, s_pair_open, s_pair_list, s_pair_pair, s_pair_either, s_pair_left, s_pair_right, s_pair_thing, s_pair_fault, s_pair_worth, s_pair_table, s_either_num, s_either_truth, s_either_open, s_either_list, s_either_pair, s_either_either, s_either_left, s_either_right, s_either_thing, s_either_fault, s_either_worth, s_either_table, s_left_num, s_left_truth, s_left_open, s_left_list, s_left_pair, s_left_either, s_left_left, s_left_right, s_left_thing, s_left_fault, s_left_worth, s_left_table, s_right_num, s_right_truth, s_right_open, s_right_list, s_right_pair, s_right_either, s_right_left, s_right_right, s_right_thing, s_right_fault, s_right_worth, s_right_table, s_thing_num, s_thing_truth, s_thing_open, s_thing_list, s_thing_pair, s_thing_either, s_thing_left, s_thing_right, s_thing_thing, s_thing_fault, s_thing_worth, s_thing_table, s_fault_num, s_fault_truth, s_fault_open, s_fault_list, s_fault_pair, s_fault_either, s_fault_left, s_fault_right, s_fault_thing, s_fault_fault, s_fault_worth, s_fault_table, s_worth_num, s_worth_truth, s_worth_open, s_worth_list, s_worth_pair, s_worth_either, s_worth_left, s_worth_right, s_worth_thing, s_worth_fault, s_worth_worth, s_worth_table, s_table_num, s_table_truth, s_table_open, s_table_list, s_table_pair, s_table_either, s_table_left, s_table_right, s_table_thing, s_table_fault, s_table_worth, s_table_table]
              have := q S2 hEx2
              rw [(mapWs_take (tell rows) ws).mpr ⟨i, w, hw, hm⟩] at this
              exact this
            | some v =>
              try simp only [Option.isNone_some, ev_t0, ev_t1, ev_t2, ev_eqs, ev_eqi, ev_intb, ev_inti, ev_add, ev_sub, ev_lt, ev_gt, ev_sl1, ev_in2, ev_lent, ev_isn, Bool.or_false, Bool.or_true, Bool.false_or, Bool.true_or, eqG_f, eqG_t, kq, Bool.not_true, Bool.not_false, if_true, if_false, ite_true, ite_false, reduceIte, s_num_num, s_num_truth, s_num_open, s_num_list, s_num_pair, s_num_either, s_num_left, s_num_right, s_num_thing, s_num_fault, s_num_worth, s_num_table, s_truth_num, s_truth_truth, s_truth_open, s_truth_list, s_truth_pair, s_truth_either, s_truth_left, s_truth_right, s_truth_thing, s_truth_fault, s_truth_worth, s_truth_table, s_open_num, s_open_truth, s_open_open, s_open_list, s_open_pair, s_open_either, s_open_left, s_open_right, s_open_thing, s_open_fault, s_open_worth, s_open_table, s_list_num, s_list_truth, s_list_open, s_list_list, s_list_pair, s_list_either, s_list_left, s_list_right, s_list_thing, s_list_fault, s_list_worth, s_list_table, s_pair_num, s_pair_truth, s_pair_open, s_pair_list, s_pair_pair, s_pair_either, s_pair_left, s_pair_right, s_pair_thing, s_pair_fault, s_pair_worth, s_pair_table, s_either_num, s_either_truth, s_either_open, s_either_list, s_either_pair, s_either_either, s_either_left, s_either_right, s_either_thing, s_either_fault, s_either_worth, s_either_table, s_left_num, s_left_truth, s_left_open, s_left_list, s_left_pair, s_left_either, s_left_left, s_left_right, s_left_thing, s_left_fault, s_left_worth, s_left_table, s_right_num, s_right_truth, s_right_open, s_right_list, s_right_pair, s_right_either, s_right_left, s_right_right, s_right_thing, s_right_fault, s_right_worth, s_right_table, s_thing_num, s_thing_truth, s_thing_open, s_thing_list, s_thing_pair, s_thing_either, s_thing_left, s_thing_right, s_thing_thing, s_thing_fault, s_thing_worth, s_thing_table, s_fault_num, s_fault_truth, s_fault_open, s_fault_list, s_fault_pair, s_fault_either, s_fault_left, s_fault_right, s_fault_thing, s_fault_fault, s_fault_worth, s_fault_table, s_worth_num, s_worth_truth, s_worth_open, s_worth_list, s_worth_pair, s_worth_either, s_worth_left, s_worth_right, s_worth_thing, s_worth_fault, s_worth_worth, s_worth_table, s_table_num, s_table_truth, s_table_open, s_table_list, s_table_pair, s_table_either, s_table_left, s_table_right, s_table_thing, s_table_fault, s_table_worth, s_table_table]
              rw [hv4]
              try simp only [resT, tsNx, tsSeq, tsBrk, tsCt, tsDrop, tsRet, tsRetN, tsIf, tsAsg, tgN, tgsNil, tgsCons, tgTup, tgSub, tsFor, tsWhile, tiSeq, tiRng1, tiRng2, tiZip, tb, tv, tc, tac, tan, ttup, tlst, tq, tand, tor, tnot, tife, tandV, torV, tnotV, tneg, tsl, tno, tpt, tcall, tbi, tml, tml0, tmj, tisi, tlRev, tlRng1, tdisp, tps, tlc, ttYes, bt1, btN, setsT, wipeT, endT, List.getElem?_cons_zero, List.getElem?_cons_succ, List.set_cons_zero, List.set_cons_succ]
              refine ⟨st_isl g3', ?_⟩
              try simp only [ev_t0, ev_t1, ev_t2, ev_eqs, ev_eqi, ev_intb, ev_inti, ev_add, ev_sub, ev_lt, ev_gt, ev_sl1, ev_in2, ev_lent, ev_isn, Bool.or_false, Bool.or_true, Bool.false_or, Bool.true_or, eqG_f, eqG_t, kq, Bool.not_true, Bool.not_false, if_true, if_false, ite_true, ite_false, reduceIte, s_num_num, s_num_truth, s_num_open, s_num_list, s_num_pair, s_num_either, s_num_left, s_num_right, s_num_thing, s_num_fault, s_num_worth, s_num_table, s_truth_num, s_truth_truth, s_truth_open, s_truth_list, s_truth_pair, s_truth_either, s_truth_left, s_truth_right, s_truth_thing, s_truth_fault, s_truth_worth, s_truth_table, s_open_num, s_open_truth, s_open_open, s_open_list, s_open_pair, s_open_either, s_open_left, s_open_right, s_open_thing, s_open_fault, s_open_worth, s_open_table, s_list_num, s_list_truth, s_list_open, s_list_list, s_list_pair, s_list_either, s_list_left, s_list_right, s_list_thing, s_list_fault, s_list_worth, s_list_table, s_pair_num, s_pair_truth, s_pair_open, s_pair_list, s_pair_pair, s_pair_either, s_pair_left, s_pair_right, s_pair_thing, s_pair_fault, s_pair_worth, s_pair_table, s_either_num, s_either_truth, s_either_open, s_either_list, s_either_pair, s_either_either, s_either_left, s_either_right, s_either_thing, s_either_fault, s_either_worth, s_either_table, s_left_num, s_left_truth, s_left_open, s_left_list, s_left_pair, s_left_either, s_left_left, s_left_right, s_left_thing, s_left_fault, s_left_worth, s_left_table, s_right_num, s_right_truth, s_right_open, s_right_list, s_right_pair, s_right_either, s_right_left, s_right_right, s_right_thing, s_right_fault, s_right_worth, s_right_table, s_thing_num, s_thing_truth, s_thing_open, s_thing_list, s_thing_pair, s_thing_either, s_thing_left, s_thing_right, s_thing_thing, s_thing_fault, s_thing_worth, s_thing_table, s_fault_num, s_fault_truth, s_fault_open, s_fault_list, s_fault_pair, s_fault_either, s_fault_left, s_fault_right, s_fault_thing, s_fault_fault, s_fault_worth, s_fault_table, s_worth_num, s_worth_truth, s_worth_open, s_worth_list, s_worth_pair, s_worth_either, s_worth_left, s_worth_right, s_worth_thing, s_worth_fault, s_worth_worth, s_worth_table, s_table_num, s_table_truth, s_table_open, s_table_list, s_table_pair, s_table_either, s_table_left, s_table_right, s_table_thing, s_table_fault, s_table_worth, s_table_table]
              have hil : i < ws.length := (List.getElem?_eq_some_iff.mp hw).1
              refine st_app g3' (by rw [List.length_map]; exact Nat.lt_of_lt_of_le (show vs.length < 100 by omega) (by decide)) fun S3 u3 => ?_
              refine ⟨hil, ⟨_, _, _, rfl⟩, vs ++ [v], by simp [g1], fun j w' hj e => ?_, by rw [u3.at_, snoc_map], fun a o h1 h => u3.get h1 (x2 _ _ (g4 a o h1 h))⟩
              rcases Nat.lt_succ_iff_lt_or_eq.mp hj with h | h
              · rw [List.getElem?_append_left (by omega)]; exact g2 j w' h e
              · subst h
                rw [hw] at e; cases e
                rw [List.getElem?_append_right (by omega), g1, Nat.sub_self, hm]; rfl
end LAW
set_option Elab.async false
set_option linter.all false
set_option maxRecDepth 100000
set_option maxHeartbeats 4000000
/-! TLC8: mapped, bare. -/
namespace LAW
open PySem PySem.Spec PyProof.Rows L2 TL
theorem told_pur (x : Str) : ∀ o : Option Nat, (toldT x o).pur = true
  | none => by simp only [toldT, pur_tup, purs_cons, pur_str, purs_nil, Bool.and_true]
  | some j => by simp only [toldT, pur_tup, purs_cons, pur_str, pur_int, purs_nil, Bool.and_true]
theorem told_fault (x : Str) : ∀ o : Option Nat, eqT (toldT x o) (.tup [.str (Str.ofString "fault")]) = o.isNone
  | none => by simp only [toldT, eqT_tup, eqTs_cons, eqTs_nil, eqT_str, s_fault_fault]; rfl
  | some j => by simp only [toldT, eqT_tup, eqTs_cons, eqT_str, s_thing_fault]; rfl
theorem f_pur : T.pur (.tup [.str (Str.ofString "fault")]) = true := by simp only [pur_tup, purs_cons, pur_str, purs_nil, Bool.and_true]
theorem m_num {f : Str → Nat → Option Nat} {n : Int} : mapW f (.num n) = some (.num n) := by unfold mapW; rfl
theorem m_tru {f : Str → Nat → Option Nat} {n : Bool} : mapW f (.tru n) = some (.tru n) := by unfold mapW; rfl
theorem m_thing {f : Str → Nat → Option Nat} {x : Str} {k : Nat} : mapW f (.thing x k) = (f x k).map (.thing x) := by unfold mapW; rfl
theorem m_lst {f : Str → Nat → Option Nat} {ws : List W} : mapW f (.lst ws) = (mapWs f ws).map .lst := by conv => lhs; unfold mapW
theorem m_left {f : Str → Nat → Option Nat} {w : W} : mapW f (.left w) = (mapW f w).map .left := by conv => lhs; unfold mapW
theorem m_right {f : Str → Nat → Option Nat} {w : W} : mapW f (.right w) = (mapW f w).map .right := by conv => lhs; unfold mapW
theorem m_pair {f : Str → Nat → Option Nat} {a b : W} : mapW f (.pair a b) = (mapW f a).bind fun x => (mapW f b).map fun y => .pair x y := by conv => lhs; unfold mapW
theorem ms_one {f : Str → Nat → Option Nat} {w : W} : mapWs f [w] = (mapW f w).map fun x => [x] := by
  unfold mapWs mapWs
  cases mapW f w <;> rfl
theorem ms_two {f : Str → Nat → Option Nat} {a b : W} : mapWs f [a, b] = (mapW f a).bind fun x => (mapW f b).map fun y => [x, y] := by
  unfold mapWs
  rw [ms_one]
  cases mapW f a <;> cases mapW f b <;> rfl
theorem siz_pos {rows : Rows} {x : Str} {k : Nat} (h : k < siz rows x) : 1 ≤ siz rows x := by omega
theorem keysT_thing {x : Str} {k : Nat} : keysT [.str (Str.ofString "thing"), .str x, .int (k : Int)] = some (tkey x k) := rfl
theorem lr_keys : keysOf [(T.str (Str.ofString "left"), T.int 1), (T.str (Str.ofString "right"), T.int 2)] = some [(.inr (Str.ofString "left"), .int 1), (.inr (Str.ofString "right"), .int 2)] := rfl
theorem lr_ne : ((Sum.inr (Str.ofString "left") : Key) = Sum.inr (Str.ofString "right")) = False := by
  have : (Str.ofString "left") ≠ (Str.ofString "right") := by decide +kernel
  simp only [eq_iff_iff, iff_false]
  intro h; injection h with h; exact this h
theorem lr_merge : mergeT [] [((.inr (Str.ofString "left") : Key), T.int 1), (.inr (Str.ofString "right"), T.int 2)] = [(.inr (Str.ofString "left"), .int 1), (.inr (Str.ofString "right"), .int 2)] := by
  unfold mergeT
  simp only [List.foldl_cons, List.foldl_nil]
  have h1 : putT [] (.inr (Str.ofString "left") : Key) (T.int 1) = [(.inr (Str.ofString "left"), .int 1)] := putT_new _ rfl
  rw [h1, putT_new _ (by rw [valT_neg (by show ¬ (Sum.inr _ : Key) = _; rw [lr_ne]; exact id)]; rfl)]
  rfl
theorem lr_left : valT [((.inr (Str.ofString "left") : Key), T.int 1), (.inr (Str.ofString "right"), T.int 2)] (.inr (Str.ofString "left")) = some (.int 1) := valT_pos rfl
theorem lr_right : valT [((.inr (Str.ofString "left") : Key), T.int 1), (.inr (Str.ofString "right"), T.int 2)] (.inr (Str.ofString "right")) = some (.int 2) := by
  rw [valT_neg (by show ¬ (Sum.inr _ : Key) = _; rw [lr_ne]; exact id)]; exact valT_pos rfl
theorem vc_mapped (n : Nat) (ts : List T) (S : Sto) (Q : T → Sto → Prop) (hl : ts.length = 3) (h : spMapped (n + 1) ts S Q) : t_mapped n (endT Q) (startT N_mapped.length ts) S := by
  obtain ⟨rows, kd, wo, rfl, ok, hh, hhas, q⟩ := h
  rw [show startT N_mapped.length [Kd.t kd, mapsT rows, W.t wo] = [some (Kd.t kd), some (mapsT rows), some (W.t wo), none, none, none, none] from rfl]
  cases kd with
  | num =>
    try simp only [t_mapped, Kd.t, tsNx, tsSeq, tsBrk, tsCt, tsDrop, tsRet, tsRetN, tsIf, tsAsg, tgN, tgsNil, tgsCons, tgTup, tgSub, tsFor, tsWhile, tiSeq, tiRng1, tiRng2, tiZip, tb, tv, tc, tac, tan, ttup, tlst, tq, tand, tor, tnot, tife, tandV, torV, tnotV, tneg, tsl, tno, tpt, tcall, tbi, tml, tml0, tmj, tisi, tlRev, tlRng1, tdisp, tps, tlc, ttYes, bt1, btN, setsT, wipeT, endT, List.getElem?_cons_zero, List.getElem?_cons_succ, List.set_cons_zero, List.set_cons_succ]
    try simp only [ev_t0, ev_t1, ev_t2, ev_eqs, ev_eqi, ev_intb, ev_inti, ev_add, ev_sub, ev_lt, ev_gt, ev_sl1, ev_in2, ev_lent, ev_isn, Bool.or_false, Bool.or_true, Bool.false_or, Bool.true_or, eqG_f, eqG_t, kq, Bool.not_true, Bool.not_false, if_true, if_false, ite_true, ite_false, reduceIte, s_num_num, s_num_truth, s_num_open, s_num_list, s_num_pair, s_num_either, s_num_left, s_num_right, s_num_thing, s_num_fault, s_num_worth, s_num_table, s_truth_num, s_truth_truth, s_truth_open, s_truth_list, s_truth_pair, s_truth_either, s_truth_left, s_truth_right, s_truth_thing, s_truth_fault, s_truth_worth, s_truth_table, s_open_num, s_open_truth, s_open_open, s_open_list, s_open_pair, s_open_either, s_open_left, s_open_right, s_open_thing, s_open_fault, s_open_worth, s_open_table, s_list_num, s_list_truth, s_list_open, s_list_list, s_list_pair, s_list_either, s_list_left, s_list_right, s_list_thing, s_list_fault, s_list_worth, s_list_table, s_pair_num, s_pair_truth, s_pair_open, s_pair_list, s_pair_pair, s_pair_either, s_pair_left, s_pair_right, s_pair_thing, s_pair_fault, s_pair_worth, s_pair_table, s_either_num, s_either_truth, s_either_open, s_either_list, s_either_pair, s_either_either, s_either_left, s_either_right, s_either_thing, s_either_fault, s_either_worth, s_either_table, s_left_num, s_left_truth, s_left_open, s_left_list, s_left_pair, s_left_either, s_left_left, s_left_right, s_left_thing, s_left_fault, s_left_worth, s_left_table, s_right_num, s_right_truth, s_right_open, s_right_list, s_right_pair, s_right_either, s_right_left, s_right_right, s_right_thing, s_right_fault, s_right_worth, s_right_table, s_thing_num, s_thing_truth, s_thing_open, s_thing_list, s_thing_pair, s_thing_either, s_thing_left, s_thing_right, s_thing_thing, s_thing_fault, s_thing_worth, s_thing_table, s_fault_num, s_fault_truth, s_fault_open, s_fault_list, s_fault_pair, s_fault_either, s_fault_left, s_fault_right, s_fault_thing, s_fault_fault, s_fault_worth, s_fault_table, s_worth_num, s_worth_truth, s_worth_open, s_worth_list, s_worth_pair, s_worth_either, s_worth_left, s_worth_right, s_worth_thing, s_worth_fault, s_worth_worth, s_worth_table, s_table_num, s_table_truth, s_table_open, s_table_list, s_table_pair, s_table_either, s_table_left, s_table_right, s_table_thing, s_table_fault, s_table_worth, s_table_table]
    refine ⟨z4000 (by simp), ?_⟩
    try simp only [ev_t0, ev_t1, ev_t2, ev_eqs, ev_eqi, ev_intb, ev_inti, ev_add, ev_sub, ev_lt, ev_gt, ev_sl1, ev_in2, ev_lent, ev_isn, Bool.or_false, Bool.or_true, Bool.false_or, Bool.true_or, eqG_f, eqG_t, kq, Bool.not_true, Bool.not_false, if_true, if_false, ite_true, ite_false, reduceIte, s_num_num, s_num_truth, s_num_open, s_num_list, s_num_pair, s_num_either, s_num_left, s_num_right, s_num_thing, s_num_fault, s_num_worth, s_num_table, s_truth_num, s_truth_truth, s_truth_open, s_truth_list, s_truth_pair, s_truth_either, s_truth_left, s_truth_right, s_truth_thing, s_truth_fault, s_truth_worth, s_truth_table, s_open_num, s_open_truth, s_open_open, s_open_list, s_open_pair, s_open_either, s_open_left, s_open_right, s_open_thing, s_open_fault, s_open_worth, s_open_table, s_list_num, s_list_truth, s_list_open, s_list_list, s_list_pair, s_list_either, s_list_left, s_list_right, s_list_thing, s_list_fault, s_list_worth, s_list_table, s_pair_num, s_pair_truth, s_pair_open, s_pair_list, s_pair_pair, s_pair_either, s_pair_left, s_pair_right, s_pair_thing, s_pair_fault, s_pair_worth, s_pair_table, s_either_num, s_either_truth, s_either_open, s_either_list, s_either_pair, s_either_either, s_either_left, s_either_right, s_either_thing, s_either_fault, s_either_worth, s_either_table, s_left_num, s_left_truth, s_left_open, s_left_list, s_left_pair, s_left_either, s_left_left, s_left_right, s_left_thing, s_left_fault, s_left_worth, s_left_table, s_right_num, s_right_truth, s_right_open, s_right_list, s_right_pair, s_right_either, s_right_left, s_right_right, s_right_thing, s_right_fault, s_right_worth, s_right_table, s_thing_num, s_thing_truth, s_thing_open, s_thing_list, s_thing_pair, s_thing_either, s_thing_left, s_thing_right, s_thing_thing, s_thing_fault, s_thing_worth, s_thing_table, s_fault_num, s_fault_truth, s_fault_open, s_fault_list, s_fault_pair, s_fault_either, s_fault_left, s_fault_right, s_fault_thing, s_fault_fault, s_fault_worth, s_fault_table, s_worth_num, s_worth_truth, s_worth_open, s_worth_list, s_worth_pair, s_worth_either, s_worth_left, s_worth_right, s_worth_thing, s_worth_fault, s_worth_worth, s_worth_table, s_table_num, s_table_truth, s_table_open, s_table_list, s_table_pair, s_table_either, s_table_left, s_table_right, s_table_thing, s_table_fault, s_table_worth, s_table_table]
    refine ⟨z4000 (by simp), ?_⟩
    have := q S (Ex.refl S)
    cases wo with
    | num i => rw [m_num] at this; exact this
    | _ => exact hhas.elim
  | tru =>
    try simp only [t_mapped, Kd.t, tsNx, tsSeq, tsBrk, tsCt, tsDrop, tsRet, tsRetN, tsIf, tsAsg, tgN, tgsNil, tgsCons, tgTup, tgSub, tsFor, tsWhile, tiSeq, tiRng1, tiRng2, tiZip, tb, tv, tc, tac, tan, ttup, tlst, tq, tand, tor, tnot, tife, tandV, torV, tnotV, tneg, tsl, tno, tpt, tcall, tbi, tml, tml0, tmj, tisi, tlRev, tlRng1, tdisp, tps, tlc, ttYes, bt1, btN, setsT, wipeT, endT, List.getElem?_cons_zero, List.getElem?_cons_succ, List.set_cons_zero, List.set_cons_succ]
    try simp only [ev_t0, ev_t1, ev_t2, ev_eqs, ev_eqi, ev_intb, ev_inti, ev_add, ev_sub, ev_lt, ev_gt, ev_sl1, ev_in2, ev_lent, ev_isn, Bool.or_false, Bool.or_true, Bool.false_or, Bool.true_or, eqG_f, eqG_t, kq, Bool.not_true, Bool.not_false, if_true, if_false, ite_true, ite_false, reduceIte, s_num_num, s_num_truth, s_num_open, s_num_list, s_num_pair, s_num_either, s_num_left, s_num_right, s_num_thing, s_num_fault, s_num_worth, s_num_table, s_truth_num, s_truth_truth, s_truth_open, s_truth_list, s_truth_pair, s_truth_either, s_truth_left, s_truth_right, s_truth_thing, s_truth_fault, s_truth_worth, s_truth_table, s_open_num, s_open_truth, s_open_open, s_open_list, s_open_pair, s_open_either, s_open_left, s_open_right, s_open_thing, s_open_fault, s_open_worth, s_open_table, s_list_num, s_list_truth, s_list_open, s_list_list, s_list_pair, s_list_either, s_list_left, s_list_right, s_list_thing, s_list_fault, s_list_worth, s_list_table, s_pair_num, s_pair_truth, s_pair_open, s_pair_list, s_pair_pair, s_pair_either, s_pair_left, s_pair_right, s_pair_thing, s_pair_fault, s_pair_worth, s_pair_table, s_either_num, s_either_truth, s_either_open, s_either_list, s_either_pair, s_either_either, s_either_left, s_either_right, s_either_thing, s_either_fault, s_either_worth, s_either_table, s_left_num, s_left_truth, s_left_open, s_left_list, s_left_pair, s_left_either, s_left_left, s_left_right, s_left_thing, s_left_fault, s_left_worth, s_left_table, s_right_num, s_right_truth, s_right_open, s_right_list, s_right_pair, s_right_either, s_right_left, s_right_right, s_right_thing, s_right_fault, s_right_worth, s_right_table, s_thing_num, s_thing_truth, s_thing_open, s_thing_list, s_thing_pair, s_thing_either, s_thing_left, s_thing_right, s_thing_thing, s_thing_fault, s_thing_worth, s_thing_table, s_fault_num, s_fault_truth, s_fault_open, s_fault_list, s_fault_pair, s_fault_either, s_fault_left, s_fault_right, s_fault_thing, s_fault_fault, s_fault_worth, s_fault_table, s_worth_num, s_worth_truth, s_worth_open, s_worth_list, s_worth_pair, s_worth_either, s_worth_left, s_worth_right, s_worth_thing, s_worth_fault, s_worth_worth, s_worth_table, s_table_num, s_table_truth, s_table_open, s_table_list, s_table_pair, s_table_either, s_table_left, s_table_right, s_table_thing, s_table_fault, s_table_worth, s_table_table]
    refine ⟨z4000 (by simp), ?_⟩
    try simp only [ev_t0, ev_t1, ev_t2, ev_eqs, ev_eqi, ev_intb, ev_inti, ev_add, ev_sub, ev_lt, ev_gt, ev_sl1, ev_in2, ev_lent, ev_isn, Bool.or_false, Bool.or_true, Bool.false_or, Bool.true_or, eqG_f, eqG_t, kq, Bool.not_true, Bool.not_false, if_true, if_false, ite_true, ite_false, reduceIte, s_num_num, s_num_truth, s_num_open, s_num_list, s_num_pair, s_num_either, s_num_left, s_num_right, s_num_thing, s_num_fault, s_num_worth, s_num_table, s_truth_num, s_truth_truth, s_truth_open, s_truth_list, s_truth_pair, s_truth_either, s_truth_left, s_truth_right, s_truth_thing, s_truth_fault, s_truth_worth, s_truth_table, s_open_num, s_open_truth, s_open_open, s_open_list, s_open_pair, s_open_either, s_open_left, s_open_right, s_open_thing, s_open_fault, s_open_worth, s_open_table, s_list_num, s_list_truth, s_list_open, s_list_list, s_list_pair, s_list_either, s_list_left, s_list_right, s_list_thing, s_list_fault, s_list_worth, s_list_table, s_pair_num, s_pair_truth, s_pair_open, s_pair_list, s_pair_pair, s_pair_either, s_pair_left, s_pair_right, s_pair_thing, s_pair_fault, s_pair_worth, s_pair_table, s_either_num, s_either_truth, s_either_open, s_either_list, s_either_pair, s_either_either, s_either_left, s_either_right, s_either_thing, s_either_fault, s_either_worth, s_either_table, s_left_num, s_left_truth, s_left_open, s_left_list, s_left_pair, s_left_either, s_left_left, s_left_right, s_left_thing, s_left_fault, s_left_worth, s_left_table, s_right_num, s_right_truth, s_right_open, s_right_list, s_right_pair, s_right_either, s_right_left, s_right_right, s_right_thing, s_right_fault, s_right_worth, s_right_table, s_thing_num, s_thing_truth, s_thing_open, s_thing_list, s_thing_pair, s_thing_either, s_thing_left, s_thing_right, s_thing_thing, s_thing_fault, s_thing_worth, s_thing_table, s_fault_num, s_fault_truth, s_fault_open, s_fault_list, s_fault_pair, s_fault_either, s_fault_left, s_fault_right, s_fault_thing, s_fault_fault, s_fault_worth, s_fault_table, s_worth_num, s_worth_truth, s_worth_open, s_worth_list, s_worth_pair, s_worth_either, s_worth_left, s_worth_right, s_worth_thing, s_worth_fault, s_worth_worth, s_worth_table, s_table_num, s_table_truth, s_table_open, s_table_list, s_table_pair, s_table_either, s_table_left, s_table_right, s_table_thing, s_table_fault, s_table_worth, s_table_table]
    refine ⟨z4000 (by simp), ?_⟩
    have := q S (Ex.refl S)
    cases wo with
    | tru i => rw [m_tru] at this; exact this
    | _ => exact hhas.elim
  | opn x =>
    cases wo with
    | thing y k =>
      obtain ⟨rfl, hk⟩ := hhas
      try simp only [t_mapped, Kd.t, w_thing, tsNx, tsSeq, tsBrk, tsCt, tsDrop, tsRet, tsRetN, tsIf, tsAsg, tgN, tgsNil, tgsCons, tgTup, tgSub, tsFor, tsWhile, tiSeq, tiRng1, tiRng2, tiZip, tb, tv, tc, tac, tan, ttup, tlst, tq, tand, tor, tnot, tife, tandV, torV, tnotV, tneg, tsl, tno, tpt, tcall, tbi, tml, tml0, tmj, tisi, tlRev, tlRng1, tdisp, tps, tlc, ttYes, bt1, btN, setsT, wipeT, endT, List.getElem?_cons_zero, List.getElem?_cons_succ, List.set_cons_zero, List.set_cons_succ]
      try simp only [ev_t0, ev_t1, ev_t2, ev_eqs, ev_eqi, ev_intb, ev_inti, ev_add, ev_sub, ev_lt, ev_gt, ev_sl1, ev_in2, ev_lent, ev_isn, Bool.or_false, Bool.or_true, Bool.false_or, Bool.true_or, eqG_f, eqG_t, kq, Bool.not_true, Bool.not_false, if_true, if_false, ite_true, ite_false, reduceIte, s_num_num, s_num_truth, s_num_open, s_num_list, s_num_pair, s_num_either, s_num_left, s_num_right, s_num_thing, s_num_fault, s_num_worth, s_num_table, s_truth_num, s_truth_truth, s_truth_open, s_truth_list, s_truth_pair, s_truth_either, s_truth_left, s_truth_right, s_truth_thing, s_truth_fault, s_truth_worth, s_truth_table, s_open_num, s_open_truth, s_open_open, s_open_list, s_open_pair, s_open_either, s_open_left, s_open_right, s_open_thing, s_open_fault, s_open_worth, s_open_table, s_list_num, s_list_truth, s_list_open, s_list_list, s_list_pair, s_list_either, s_list_left, s_list_right, s_list_thing, s_list_fault, s_list_worth, s_list_table, s_pair_num, s_pair_truth, s_pair_open, s_pair_list, s_pair_pair, s_pair_either, s_pair_left, s_pair_right, s_pair_thing, s_pair_fault, s_pair_worth, s_pair_table, s_either_num, s_either_truth, s_either_open, s_either_list, s_either_pair, s_either_either, s_either_left, s_either_right, s_either_thing, s_either_fault, s_either_worth, s_either_table, s_left_num, s_left_truth, s_left_open, s_left_list, s_left_pair, s_left_either, s_left_left, s_left_right, s_left_thing, s_left_fault, s_left_worth, s_left_table, s_right_num, s_right_truth, s_right_open, s_right_list, s_right_pair, s_right_either, s_right_left, s_right_right, s_right_thing, s_right_fault, s_right_worth, s_right_table, s_thing_num, s_thing_truth, s_thing_open, s_thing_list, s_thing_pair, s_thing_either, s_thing_left, s_thing_right, s_thing_thing, s_thing_fault, s_thing_worth, s_thing_table, s_fault_num, s_fault_truth, s_fault_open, s_fault_list, s_fault_pair, s_fault_either, s_fault_left, s_fault_right, s_fault_thing, s_fault_fault, s_fault_worth, s_fault_table, s_worth_num, s_worth_truth, s_worth_open, s_worth_list, s_worth_pair, s_worth_either, s_worth_left, s_worth_right, s_worth_thing, s_worth_fault, s_worth_worth, s_worth_table, s_table_num, s_table_truth, s_table_open, s_table_list, s_table_pair, s_table_either, s_table_left, s_table_right, s_table_thing, s_table_fault, s_table_worth, s_table_table]
      refine ⟨z4000 (by simp), ?_⟩
      try simp only [ev_t0, ev_t1, ev_t2, ev_eqs, ev_eqi, ev_intb, ev_inti, ev_add, ev_sub, ev_lt, ev_gt, ev_sl1, ev_in2, ev_lent, ev_isn, Bool.or_false, Bool.or_true, Bool.false_or, Bool.true_or, eqG_f, eqG_t, kq, Bool.not_true, Bool.not_false, if_true, if_false, ite_true, ite_false, reduceIte, s_num_num, s_num_truth, s_num_open, s_num_list, s_num_pair, s_num_either, s_num_left, s_num_right, s_num_thing, s_num_fault, s_num_worth, s_num_table, s_truth_num, s_truth_truth, s_truth_open, s_truth_list, s_truth_pair, s_truth_either, s_truth_left, s_truth_right, s_truth_thing, s_truth_fault, s_truth_worth, s_truth_table, s_open_num, s_open_truth, s_open_open, s_open_list, s_open_pair, s_open_either, s_open_left, s_open_right, s_open_thing, s_open_fault, s_open_worth, s_open_table, s_list_num, s_list_truth, s_list_open, s_list_list, s_list_pair, s_list_either, s_list_left, s_list_right, s_list_thing, s_list_fault, s_list_worth, s_list_table, s_pair_num, s_pair_truth, s_pair_open, s_pair_list, s_pair_pair, s_pair_either, s_pair_left, s_pair_right, s_pair_thing, s_pair_fault, s_pair_worth, s_pair_table, s_either_num, s_either_truth, s_either_open, s_either_list, s_either_pair, s_either_either, s_either_left, s_either_right, s_either_thing, s_either_fault, s_either_worth, s_either_table, s_left_num, s_left_truth, s_left_open, s_left_list, s_left_pair, s_left_either, s_left_left, s_left_right, s_left_thing, s_left_fault, s_left_worth, s_left_table, s_right_num, s_right_truth, s_right_open, s_right_list, s_right_pair, s_right_either, s_right_left, s_right_right, s_right_thing, s_right_fault, s_right_worth, s_right_table, s_thing_num, s_thing_truth, s_thing_open, s_thing_list, s_thing_pair, s_thing_either, s_thing_left, s_thing_right, s_thing_thing, s_thing_fault, s_thing_worth, s_thing_table, s_fault_num, s_fault_truth, s_fault_open, s_fault_list, s_fault_pair, s_fault_either, s_fault_left, s_fault_right, s_fault_thing, s_fault_fault, s_fault_worth, s_fault_table, s_worth_num, s_worth_truth, s_worth_open, s_worth_list, s_worth_pair, s_worth_either, s_worth_left, s_worth_right, s_worth_thing, s_worth_fault, s_worth_worth, s_worth_table, s_table_num, s_table_truth, s_table_open, s_table_list, s_table_pair, s_table_either, s_table_left, s_table_right, s_table_thing, s_table_fault, s_table_worth, s_table_table]
      refine ⟨rfl, rows, x, rfl, ok, siz_pos hk, fun p kvs S1 x1 hp hv => ?_⟩
      refine st_ixx hp keysT_thing (hv k hk) ?_
      refine st_eq (told_pur x _) f_pur (by rw [fault_d]; omega) ?_
      rw [told_fault]
      have := q S1 x1
      rw [m_thing] at this
      cases htl : tell rows x k with
      | none =>
        rw [htl] at this
        try simp only [Option.isNone_none, ev_t0, ev_t1, ev_t2, ev_eqs, ev_eqi, ev_intb, ev_inti, ev_add, ev_sub, ev_lt, ev_gt, ev_sl1, ev_in2, ev_lent, ev_isn, Bool.or_false, Bool.or_true, Bool.false_or, Bool.true_or, eqG_f, eqG_t, kq, Bool.not_true, Bool.not_false, if_true, if_false, ite_true, ite_false, reduceIte, s_num_num, s_num_truth, s_num_open, s_num_list, s_num_pair, s_num_either, s_num_left, s_num_right, s_num_thing, s_num_fault, s_num_worth, s_num_table, s_truth_num, s_truth_truth, s_truth_open, s_truth_list, s_truth_pair, s_truth_either, s_truth_left, s_truth_right, s_truth_thing, s_truth_fault, s_truth_worth, s_truth_table, s_open_num, s_open_truth, s_open_open, s_open_list, s_open_pair, s_open_either, s_open_left, s_open_right, s_open_thing, s_open_fault, s_open_worth, s_open_table, s_list_num, s_list_truth, s_list_open, s_list_list, s_list_pair, s_list_either, s_list_left, s_list_right, s_list_thing, s_list_fault, s_list_worth, s_list_table, s_pair_num, s_pair_truth, s_pair_open, s_pair_list, s_pair_pair, s_pair_either, s_pair_left, s_pair_right, s_pair_thing, s_pair_fault, s_pair_worth, s_pair_table, s_either_num, s_either_truth, s_either_open, s_either_list, s_either_pair, s_either_either, s_either_left, s_either_right, s_either_thing, s_either_fault, s_either_worth, s_either_table, s_left_num, s_left_truth, s_left_open, s_left_list, s_left_pair, s_left_either, s_left_left, s_left_right, s_left_thing, s_left_fault, s_left_worth, s_left_table, s_right_num, s_right_truth, s_right_open, s_right_list, s_right_pair, s_right_either, s_right_left, s_right_right, s_right_thing, s_right_fault, s_right_worth, s_right_table, s_thing_num, s_thing_truth, s_thing_open, s_thing_list, s_thing_pair, s_thing_either, s_thing_left, s_thing_right, s_thing_thing, s_thing_fault, s_thing_worth, s_thing_table, s_fault_num, s_fault_truth, s_fault_open, s_fault_list, s_fault_pair, s_fault_either, s_fault_left, s_fault_right, s_fault_thing, s_fault_fault, s_fault_worth, s_fault_table, s_worth_num, s_worth_truth, s_worth_open, s_worth_list, s_worth_pair, s_worth_either, s_worth_left, s_worth_right, s_worth_thing, s_worth_fault, s_worth_worth, s_worth_table, s_table_num, s_table_truth, s_table_open, s_table_list, s_table_pair, s_table_either, s_table_left, s_table_right, s_table_thing, s_table_fault, s_table_worth, s_table_table]
        exact this
      | some j =>
        rw [htl] at this
        try simp only [Option.isNone_some, ev_t0, ev_t1, ev_t2, ev_eqs, ev_eqi, ev_intb, ev_inti, ev_add, ev_sub, ev_lt, ev_gt, ev_sl1, ev_in2, ev_lent, ev_isn, Bool.or_false, Bool.or_true, Bool.false_or, Bool.true_or, eqG_f, eqG_t, kq, Bool.not_true, Bool.not_false, if_true, if_false, ite_true, ite_false, reduceIte, s_num_num, s_num_truth, s_num_open, s_num_list, s_num_pair, s_num_either, s_num_left, s_num_right, s_num_thing, s_num_fault, s_num_worth, s_num_table, s_truth_num, s_truth_truth, s_truth_open, s_truth_list, s_truth_pair, s_truth_either, s_truth_left, s_truth_right, s_truth_thing, s_truth_fault, s_truth_worth, s_truth_table, s_open_num, s_open_truth, s_open_open, s_open_list, s_open_pair, s_open_either, s_open_left, s_open_right, s_open_thing, s_open_fault, s_open_worth, s_open_table, s_list_num, s_list_truth, s_list_open, s_list_list, s_list_pair, s_list_either, s_list_left, s_list_right, s_list_thing, s_list_fault, s_list_worth, s_list_table, s_pair_num, s_pair_truth, s_pair_open, s_pair_list, s_pair_pair, s_pair_either, s_pair_left, s_pair_right, s_pair_thing, s_pair_fault, s_pair_worth, s_pair_table, s_either_num, s_either_truth, s_either_open, s_either_list, s_either_pair, s_either_either, s_either_left, s_either_right, s_either_thing, s_either_fault, s_either_worth, s_either_table, s_left_num, s_left_truth, s_left_open, s_left_list, s_left_pair, s_left_either, s_left_left, s_left_right, s_left_thing, s_left_fault, s_left_worth, s_left_table, s_right_num, s_right_truth, s_right_open, s_right_list, s_right_pair, s_right_either, s_right_left, s_right_right, s_right_thing, s_right_fault, s_right_worth, s_right_table, s_thing_num, s_thing_truth, s_thing_open, s_thing_list, s_thing_pair, s_thing_either, s_thing_left, s_thing_right, s_thing_thing, s_thing_fault, s_thing_worth, s_thing_table, s_fault_num, s_fault_truth, s_fault_open, s_fault_list, s_fault_pair, s_fault_either, s_fault_left, s_fault_right, s_fault_thing, s_fault_fault, s_fault_worth, s_fault_table, s_worth_num, s_worth_truth, s_worth_open, s_worth_list, s_worth_pair, s_worth_either, s_worth_left, s_worth_right, s_worth_thing, s_worth_fault, s_worth_worth, s_worth_table, s_table_num, s_table_truth, s_table_open, s_table_list, s_table_pair, s_table_either, s_table_left, s_table_right, s_table_thing, s_table_fault, s_table_worth, s_table_table]
        refine ⟨z4000 (by simp), ?_⟩
        simp only [Option.map_some, resT, w_thing] at this
        exact this
    | _ => exact hhas.elim
  | lst k =>
    cases wo with
    | lst ws =>
      obtain ⟨h12, hall⟩ := hhas
      try simp only [t_mapped, Kd.t, w_lst, tsNx, tsSeq, tsBrk, tsCt, tsDrop, tsRet, tsRetN, tsIf, tsAsg, tgN, tgsNil, tgsCons, tgTup, tgSub, tsFor, tsWhile, tiSeq, tiRng1, tiRng2, tiZip, tb, tv, tc, tac, tan, ttup, tlst, tq, tand, tor, tnot, tife, tandV, torV, tnotV, tneg, tsl, tno, tpt, tcall, tbi, tml, tml0, tmj, tisi, tlRev, tlRng1, tdisp, tps, tlc, ttYes, bt1, btN, setsT, wipeT, endT, List.getElem?_cons_zero, List.getElem?_cons_succ, List.set_cons_zero, List.set_cons_succ]
      try simp only [ev_t0, ev_t1, ev_t2, ev_eqs, ev_eqi, ev_intb, ev_inti, ev_add, ev_sub, ev_lt, ev_gt, ev_sl1, ev_in2, ev_lent, ev_isn, Bool.or_false, Bool.or_true, Bool.false_or, Bool.true_or, eqG_f, eqG_t, kq, Bool.not_true, Bool.not_false, if_true, if_false, ite_true, ite_false, reduceIte, s_num_num, s_num_truth, s_num_open, s_num_list, s_num_pair, s_num_either, s_num_left, s_num_right, s_num_thing, s_num_fault, s_num_worth, s_num_table, s_truth_num, s_truth_truth, s_truth_open, s_truth_list, s_truth_pair, s_truth_either, s_truth_left, s_truth_right, s_truth_thing, s_truth_fault, s_truth_worth, s_truth_table, s_open_num, s_open_truth, s_open_open, s_open_list, s_open_pair, s_open_either, s_open_left, s_open_right, s_open_thing, s_open_fault, s_open_worth, s_open_table, s_list_num, s_list_truth, s_list_open, s_list_list, s_list_pair, s_list_either, s_list_left, s_list_right, s_list_thing, s_list_fault, s_list_worth, s_list_table, s_pair_num, s_pair_truth, s_pair_open, s_pair_list, s_pair_pair, s_pair_either, s_pair_left, s_pair_right, s_pair_thing, s_pair_fault, s_pair_worth, s_pair_table, s_either_num, s_either_truth, s_either_open, s_either_list, s_either_pair, s_either_either, s_either_left, s_either_right, s_either_thing, s_either_fault, s_either_worth, s_either_table, s_left_num, s_left_truth, s_left_open, s_left_list, s_left_pair, s_left_either, s_left_left, s_left_right, s_left_thing, s_left_fault, s_left_worth, s_left_table, s_right_num, s_right_truth, s_right_open, s_right_list, s_right_pair, s_right_either, s_right_left, s_right_right, s_right_thing, s_right_fault, s_right_worth, s_right_table, s_thing_num, s_thing_truth, s_thing_open, s_thing_list, s_thing_pair, s_thing_either, s_thing_left, s_thing_right, s_thing_thing, s_thing_fault, s_thing_worth, s_thing_table, s_fault_num, s_fault_truth, s_fault_open, s_fault_list, s_fault_pair, s_fault_either, s_fault_left, s_fault_right, s_fault_thing, s_fault_fault, s_fault_worth, s_fault_table, s_worth_num, s_worth_truth, s_worth_open, s_worth_list, s_worth_pair, s_worth_either, s_worth_left, s_worth_right, s_worth_thing, s_worth_fault, s_worth_worth, s_worth_table, s_table_num, s_table_truth, s_table_open, s_table_list, s_table_pair, s_table_either, s_table_left, s_table_right, s_table_thing, s_table_fault, s_table_worth, s_table_table]
      refine ⟨z4000 (by simp), ?_⟩
      try simp only [ev_t0, ev_t1, ev_t2, ev_eqs, ev_eqi, ev_intb, ev_inti, ev_add, ev_sub, ev_lt, ev_gt, ev_sl1, ev_in2, ev_lent, ev_isn, Bool.or_false, Bool.or_true, Bool.false_or, Bool.true_or, eqG_f, eqG_t, kq, Bool.not_true, Bool.not_false, if_true, if_false, ite_true, ite_false, reduceIte, s_num_num, s_num_truth, s_num_open, s_num_list, s_num_pair, s_num_either, s_num_left, s_num_right, s_num_thing, s_num_fault, s_num_worth, s_num_table, s_truth_num, s_truth_truth, s_truth_open, s_truth_list, s_truth_pair, s_truth_either, s_truth_left, s_truth_right, s_truth_thing, s_truth_fault, s_truth_worth, s_truth_table, s_open_num, s_open_truth, s_open_open, s_open_list, s_open_pair, s_open_either, s_open_left, s_open_right, s_open_thing, s_open_fault, s_open_worth, s_open_table, s_list_num, s_list_truth, s_list_open, s_list_list, s_list_pair, s_list_either, s_list_left, s_list_right, s_list_thing, s_list_fault, s_list_worth, s_list_table, s_pair_num, s_pair_truth, s_pair_open, s_pair_list, s_pair_pair, s_pair_either, s_pair_left, s_pair_right, s_pair_thing, s_pair_fault, s_pair_worth, s_pair_table, s_either_num, s_either_truth, s_either_open, s_either_list, s_either_pair, s_either_either, s_either_left, s_either_right, s_either_thing, s_either_fault, s_either_worth, s_either_table, s_left_num, s_left_truth, s_left_open, s_left_list, s_left_pair, s_left_either, s_left_left, s_left_right, s_left_thing, s_left_fault, s_left_worth, s_left_table, s_right_num, s_right_truth, s_right_open, s_right_list, s_right_pair, s_right_either, s_right_left, s_right_right, s_right_thing, s_right_fault, s_right_worth, s_right_table, s_thing_num, s_thing_truth, s_thing_open, s_thing_list, s_thing_pair, s_thing_either, s_thing_left, s_thing_right, s_thing_thing, s_thing_fault, s_thing_worth, s_thing_table, s_fault_num, s_fault_truth, s_fault_open, s_fault_list, s_fault_pair, s_fault_either, s_fault_left, s_fault_right, s_fault_thing, s_fault_fault, s_fault_worth, s_fault_table, s_worth_num, s_worth_truth, s_worth_open, s_worth_list, s_worth_pair, s_worth_either, s_worth_left, s_worth_right, s_worth_thing, s_worth_fault, s_worth_worth, s_worth_table, s_table_num, s_table_truth, s_table_open, s_table_list, s_table_pair, s_table_either, s_table_left, s_table_right, s_table_thing, s_table_fault, s_table_worth, s_table_table]
      refine st_lst (by simp) (nw fun p S1 hp hpp x1 => ?_)
      try simp only [ev_t0, ev_t1, ev_t2, ev_eqs, ev_eqi, ev_intb, ev_inti, ev_add, ev_sub, ev_lt, ev_gt, ev_sl1, ev_in2, ev_lent, ev_isn, Bool.or_false, Bool.or_true, Bool.false_or, Bool.true_or, eqG_f, eqG_t, kq, Bool.not_true, Bool.not_false, if_true, if_false, ite_true, ite_false, reduceIte, s_num_num, s_num_truth, s_num_open, s_num_list, s_num_pair, s_num_either, s_num_left, s_num_right, s_num_thing, s_num_fault, s_num_worth, s_num_table, s_truth_num, s_truth_truth, s_truth_open, s_truth_list, s_truth_pair, s_truth_either, s_truth_left, s_truth_right, s_truth_thing, s_truth_fault, s_truth_worth, s_truth_table, s_open_num, s_open_truth, s_open_open, s_open_list, s_open_pair, s_open_either, s_open_left, s_open_right, s_open_thing, s_open_fault, s_open_worth, s_open_table, s_list_num, s_list_truth, s_list_open, s_list_list, s_list_pair, s_list_either, s_list_left, s_list_right, s_list_thing, s_list_fault, s_list_worth, s_list_table, s_pair_num, s_pair_truth, s_pair_open, s_pair_list, s_pair_pair, s_pair_either, s_pair_left, s_pair_right, s_pair_thing, s_pair_fault, s_pair_worth, s_pair_table, s_either_num, s_either_truth, s_either_open, s_either_list, s_either_pair, s_either_either, s_either_left, s_either_right, s_either_thing, s_either_fault, s_either_worth, s_either_table, s_left_num, s_left_truth, s_left_open, s_left_list, s_left_pair, s_left_either, s_left_left, s_left_right, s_left_thing, s_left_fault, s_left_worth, s_left_table, s_right_num, s_right_truth, s_right_open, s_right_list, s_right_pair, s_right_either, s_right_left, s_right_right, s_right_thing, s_right_fault, s_right_worth, s_right_table, s_thing_num, s_thing_truth, s_thing_open, s_thing_list, s_thing_pair, s_thing_either, s_thing_left, s_thing_right, s_thing_thing, s_thing_fault, s_thing_worth, s_thing_table, s_fault_num, s_fault_truth, s_fault_open, s_fault_list, s_fault_pair, s_fault_either, s_fault_left, s_fault_right, s_fault_thing, s_fault_fault, s_fault_worth, s_fault_table, s_worth_num, s_worth_truth, s_worth_open, s_worth_list, s_worth_pair, s_worth_either, s_worth_left, s_worth_right, s_worth_thing, s_worth_fault, s_worth_worth, s_worth_table, s_table_num, s_table_truth, s_table_open, s_table_list, s_table_pair, s_table_either, s_table_left, s_table_right, s_table_thing, s_table_fault, s_table_worth, s_table_table]
      rw [List.length_map]
      refine st_mull hpp (by omega) (by omega) (z4000 (by simp; omega)) (nw fun p2 S2 hp2 hpp2 x2 => ?_)
      have e : (List.replicate ((ws.length : Nat) : Int).toNat [Kd.t k]).flatten = (List.replicate ws.length k).map Kd.t := by
        rw [Int.toNat_natCast, List.map_replicate]
        generalize ws.length = m
        induction m with
        | zero => rfl
        | succ m ih => rw [List.replicate_succ, List.flatten_cons, ih, List.replicate_succ]; rfl
      rw [e] at hpp2
      refine ⟨rfl, rows, List.replicate ws.length k, ws, _, by rw [wts_map], ok, ?_, by simp, h12, fun k' hk' => ?_, fun i k' w h1 h2 => ?_, fun S3 x3 => ?_⟩
      · show ((lstAt S2 p2).map fun xs => (false, xs)).map (·.2) = _
        rw [lstAt_of hpp2]; rfl
      · rw [List.eq_of_mem_replicate hk']; exact Nat.lt_of_succ_lt_succ hh
      · rw [List.eq_of_mem_replicate (List.mem_of_getElem? h1)]; exact hall w (List.mem_of_getElem? h2)
      · have := q S3 ((x1.trans x2).trans x3)
        rw [m_lst] at this
        cases hm : mapWs (tell rows) ws with
        | none =>
          rw [hm] at this
          try simp only [allT, ev_t0, ev_t1, ev_t2, ev_eqs, ev_eqi, ev_intb, ev_inti, ev_add, ev_sub, ev_lt, ev_gt, ev_sl1, ev_in2, ev_lent, ev_isn, Bool.or_false, Bool.or_true, Bool.false_or, Bool.true_or, eqG_f, eqG_t, kq, Bool.not_true, Bool.not_false, if_true, if_false, ite_true, ite_false, reduceIte, s_num_num, s_num_truth, s_num_open, s_num_list, s_num_pair, s_num_either, s_num_left, s_num_right, s_num_thing, s_num_fault, s_num_worth, s_num_table, s_truth_num, s_truth_truth, s_truth_open, s_truth_list, s_truth_pair, s_truth_either, s_truth_left, s_truth_right, s_truth_thing, s_truth_fault, s_truth_worth, s_truth_table, s_open_num, s_open_truth, s_open_open, s_open_list, s_open_pair, s_open_either, s_open_left, s_open_right, s_open_thing, s_open_fault, s_open_worth, s_open_table, s_list_num, s_list_truth, s_list_open, s_list_list, s_list_pair, s_list_either, s_list_left, s_list_right, s_list_thing, s_list_fault, s_list_worth, s_list_table, s_pair_num, s_pair_truth, s_pair_open, s_pair_list, s_pair_pair, s_pair_either, s_pair_left, s_pair_right, s_pair_thing, s_pair_fault, s_pair_worth, s_pair_table, s_either_num, s_either_truth, s_either_open, s_either_list, s_either_pair, s_either_either, s_either_left, s_either_right, s_either_thing, s_either_fault, s_either_worth, s_either_table, s_left_num, s_left_truth, s_left_open, s_left_list, s_left_pair, s_left_either, s_left_left, s_left_right, s_left_thing, s_left_fault, s_left_worth, s_left_table, s_right_num, s_right_truth, s_right_open, s_right_list, s_right_pair, s_right_either, s_right_left, s_right_right, s_right_thing, s_right_fault, s_right_worth, s_right_table, s_thing_num, s_thing_truth, s_thing_open, s_thing_list, s_thing_pair, s_thing_either, s_thing_left, s_thing_right, s_thing_thing, s_thing_fault, s_thing_worth, s_thing_table, s_fault_num, s_fault_truth, s_fault_open, s_fault_list, s_fault_pair, s_fault_either, s_fault_left, s_fault_right, s_fault_thing, s_fault_fault, s_fault_worth, s_fault_table, s_worth_num, s_worth_truth, s_worth_open, s_worth_list, s_worth_pair, s_worth_either, s_worth_left, s_worth_right, s_worth_thing, s_worth_fault, s_worth_worth, s_worth_table, s_table_num, s_table_truth, s_table_open, s_table_list, s_table_pair, s_table_either, s_table_left, s_table_right, s_table_thing, s_table_fault, s_table_worth, s_table_table]
          exact this
        | some vs =>
          rw [hm] at this
          try simp only [allT, ev_t0, ev_t1, ev_t2, ev_eqs, ev_eqi, ev_intb, ev_inti, ev_add, ev_sub, ev_lt, ev_gt, ev_sl1, ev_in2, ev_lent, ev_isn, Bool.or_false, Bool.or_true, Bool.false_or, Bool.true_or, eqG_f, eqG_t, kq, Bool.not_true, Bool.not_false, if_true, if_false, ite_true, ite_false, reduceIte, s_num_num, s_num_truth, s_num_open, s_num_list, s_num_pair, s_num_either, s_num_left, s_num_right, s_num_thing, s_num_fault, s_num_worth, s_num_table, s_truth_num, s_truth_truth, s_truth_open, s_truth_list, s_truth_pair, s_truth_either, s_truth_left, s_truth_right, s_truth_thing, s_truth_fault, s_truth_worth, s_truth_table, s_open_num, s_open_truth, s_open_open, s_open_list, s_open_pair, s_open_either, s_open_left, s_open_right, s_open_thing, s_open_fault, s_open_worth, s_open_table, s_list_num, s_list_truth, s_list_open, s_list_list, s_list_pair, s_list_either, s_list_left, s_list_right, s_list_thing, s_list_fault, s_list_worth, s_list_table, s_pair_num, s_pair_truth, s_pair_open, s_pair_list, s_pair_pair, s_pair_either, s_pair_left, s_pair_right, s_pair_thing, s_pair_fault, s_pair_worth, s_pair_table, s_either_num, s_either_truth, s_either_open, s_either_list, s_either_pair, s_either_either, s_either_left, s_either_right, s_either_thing, s_either_fault, s_either_worth, s_either_table, s_left_num, s_left_truth, s_left_open, s_left_list, s_left_pair, s_left_either, s_left_left, s_left_right, s_left_thing, s_left_fault, s_left_worth, s_left_table, s_right_num, s_right_truth, s_right_open, s_right_list, s_right_pair, s_right_either, s_right_left, s_right_right, s_right_thing, s_right_fault, s_right_worth, s_right_table, s_thing_num, s_thing_truth, s_thing_open, s_thing_list, s_thing_pair, s_thing_either, s_thing_left, s_thing_right, s_thing_thing, s_thing_fault, s_thing_worth, s_thing_table, s_fault_num, s_fault_truth, s_fault_open, s_fault_list, s_fault_pair, s_fault_either, s_fault_left, s_fault_right, s_fault_thing, s_fault_fault, s_fault_worth, s_fault_table, s_worth_num, s_worth_truth, s_worth_open, s_worth_list, s_worth_pair, s_worth_either, s_worth_left, s_worth_right, s_worth_thing, s_worth_fault, s_worth_worth, s_worth_table, s_table_num, s_table_truth, s_table_open, s_table_list, s_table_pair, s_table_either, s_table_left, s_table_right, s_table_thing, s_table_fault, s_table_worth, s_table_table]
          refine ⟨z4000 (by simp), z4000 (by simp), ?_⟩
          simp only [Option.map_some, resT, w_lst] at this
          rw [wts_map]
          exact this
    | _ => exact hhas.elim
  | pair a b =>
    cases wo with
    | pair x y =>
      try simp only [t_mapped, Kd.t, w_pair, tsNx, tsSeq, tsBrk, tsCt, tsDrop, tsRet, tsRetN, tsIf, tsAsg, tgN, tgsNil, tgsCons, tgTup, tgSub, tsFor, tsWhile, tiSeq, tiRng1, tiRng2, tiZip, tb, tv, tc, tac, tan, ttup, tlst, tq, tand, tor, tnot, tife, tandV, torV, tnotV, tneg, tsl, tno, tpt, tcall, tbi, tml, tml0, tmj, tisi, tlRev, tlRng1, tdisp, tps, tlc, ttYes, bt1, btN, setsT, wipeT, endT, List.getElem?_cons_zero, List.getElem?_cons_succ, List.set_cons_zero, List.set_cons_succ]
      try simp only [ev_t0, ev_t1, ev_t2, ev_eqs, ev_eqi, ev_intb, ev_inti, ev_add, ev_sub, ev_lt, ev_gt, ev_sl1, ev_in2, ev_lent, ev_isn, Bool.or_false, Bool.or_true, Bool.false_or, Bool.true_or, eqG_f, eqG_t, kq, Bool.not_true, Bool.not_false, if_true, if_false, ite_true, ite_false, reduceIte, s_num_num, s_num_truth, s_num_open, s_num_list, s_num_pair, s_num_either, s_num_left, s_num_right, s_num_thing, s_num_fault, s_num_worth, s_num_table, s_truth_num, s_truth_truth, s_truth_open, s_truth_list, s_truth_pair, s_truth_either, s_truth_left, s_truth_right, s_truth_thing, s_truth_fault, s_truth_worth, s_truth_table, s_open_num, s_open_truth, s_open_open, s_open_list, s_open_pair, s_open_either, s_open_left, s_open_right, s_open_thing, s_open_fault, s_open_worth, s_open_table, s_list_num, s_list_truth, s_list_open, s_list_list, s_list_pair, s_list_either, s_list_left, s_list_right, s_list_thing, s_list_fault, s_list_worth, s_list_table, s_pair_num, s_pair_truth, s_pair_open, s_pair_list, s_pair_pair, s_pair_either, s_pair_left, s_pair_right, s_pair_thing, s_pair_fault, s_pair_worth, s_pair_table, s_either_num, s_either_truth, s_either_open, s_either_list, s_either_pair, s_either_either, s_either_left, s_either_right, s_either_thing, s_either_fault, s_either_worth, s_either_table, s_left_num, s_left_truth, s_left_open, s_left_list, s_left_pair, s_left_either, s_left_left, s_left_right, s_left_thing, s_left_fault, s_left_worth, s_left_table, s_right_num, s_right_truth, s_right_open, s_right_list, s_right_pair, s_right_either, s_right_left, s_right_right, s_right_thing, s_right_fault, s_right_worth, s_right_table, s_thing_num, s_thing_truth, s_thing_open, s_thing_list, s_thing_pair, s_thing_either, s_thing_left, s_thing_right, s_thing_thing, s_thing_fault, s_thing_worth, s_thing_table, s_fault_num, s_fault_truth, s_fault_open, s_fault_list, s_fault_pair, s_fault_either, s_fault_left, s_fault_right, s_fault_thing, s_fault_fault, s_fault_worth, s_fault_table, s_worth_num, s_worth_truth, s_worth_open, s_worth_list, s_worth_pair, s_worth_either, s_worth_left, s_worth_right, s_worth_thing, s_worth_fault, s_worth_worth, s_worth_table, s_table_num, s_table_truth, s_table_open, s_table_list, s_table_pair, s_table_either, s_table_left, s_table_right, s_table_thing, s_table_fault, s_table_worth, s_table_table]
      refine ⟨z4000 (by simp), ?_⟩
      try simp only [ev_t0, ev_t1, ev_t2, ev_eqs, ev_eqi, ev_intb, ev_inti, ev_add, ev_sub, ev_lt, ev_gt, ev_sl1, ev_in2, ev_lent, ev_isn, Bool.or_false, Bool.or_true, Bool.false_or, Bool.true_or, eqG_f, eqG_t, kq, Bool.not_true, Bool.not_false, if_true, if_false, ite_true, ite_false, reduceIte, s_num_num, s_num_truth, s_num_open, s_num_list, s_num_pair, s_num_either, s_num_left, s_num_right, s_num_thing, s_num_fault, s_num_worth, s_num_table, s_truth_num, s_truth_truth, s_truth_open, s_truth_list, s_truth_pair, s_truth_either, s_truth_left, s_truth_right, s_truth_thing, s_truth_fault, s_truth_worth, s_truth_table, s_open_num, s_open_truth, s_open_open, s_open_list, s_open_pair, s_open_either, s_open_left, s_open_right, s_open_thing, s_open_fault, s_open_worth, s_open_table, s_list_num, s_list_truth, s_list_open, s_list_list, s_list_pair, s_list_either, s_list_left, s_list_right, s_list_thing, s_list_fault, s_list_worth, s_list_table, s_pair_num, s_pair_truth, s_pair_open, s_pair_list, s_pair_pair, s_pair_either, s_pair_left, s_pair_right, s_pair_thing, s_pair_fault, s_pair_worth, s_pair_table, s_either_num, s_either_truth, s_either_open, s_either_list, s_either_pair, s_either_either, s_either_left, s_either_right, s_either_thing, s_either_fault, s_either_worth, s_either_table, s_left_num, s_left_truth, s_left_open, s_left_list, s_left_pair, s_left_either, s_left_left, s_left_right, s_left_thing, s_left_fault, s_left_worth, s_left_table, s_right_num, s_right_truth, s_right_open, s_right_list, s_right_pair, s_right_either, s_right_left, s_right_right, s_right_thing, s_right_fault, s_right_worth, s_right_table, s_thing_num, s_thing_truth, s_thing_open, s_thing_list, s_thing_pair, s_thing_either, s_thing_left, s_thing_right, s_thing_thing, s_thing_fault, s_thing_worth, s_thing_table, s_fault_num, s_fault_truth, s_fault_open, s_fault_list, s_fault_pair, s_fault_either, s_fault_left, s_fault_right, s_fault_thing, s_fault_fault, s_fault_worth, s_fault_table, s_worth_num, s_worth_truth, s_worth_open, s_worth_list, s_worth_pair, s_worth_either, s_worth_left, s_worth_right, s_worth_thing, s_worth_fault, s_worth_worth, s_worth_table, s_table_num, s_table_truth, s_table_open, s_table_list, s_table_pair, s_table_either, s_table_left, s_table_right, s_table_thing, s_table_fault, s_table_worth, s_table_table]
      have hh' : max a.h b.h + 1 < n + 1 := hh
      refine ⟨rfl, rows, [a, b], [x, y], _, by rw [wts_map]; rfl, ok, rfl, rfl, by simp, fun k' hk' => ?_, fun i k' w h1 h2 => ?_, fun S3 x3 => ?_⟩
      · simp only [List.mem_cons, List.not_mem_nil, or_false] at hk'
        rcases hk' with rfl | rfl <;> omega
      · match i, h1, h2 with
        | 0, h1, h2 => cases h1; cases h2; exact hhas.1
        | 1, h1, h2 => cases h1; cases h2; exact hhas.2
        | i + 2, h1, _ => cases h1
      · have := q S3 x3
        rw [m_pair] at this
        rw [ms_two]
        cases h1 : mapW (tell rows) x with
        | none =>
          rw [h1] at this
          try simp only [allT, Option.bind_none, ev_t0, ev_t1, ev_t2, ev_eqs, ev_eqi, ev_intb, ev_inti, ev_add, ev_sub, ev_lt, ev_gt, ev_sl1, ev_in2, ev_lent, ev_isn, Bool.or_false, Bool.or_true, Bool.false_or, Bool.true_or, eqG_f, eqG_t, kq, Bool.not_true, Bool.not_false, if_true, if_false, ite_true, ite_false, reduceIte, s_num_num, s_num_truth, s_num_open, s_num_list, s_num_pair, s_num_either, s_num_left, s_num_right, s_num_thing, s_num_fault, s_num_worth, s_num_table, s_truth_num, s_truth_truth, s_truth_open, s_truth_list, s_truth_pair, s_truth_either, s_truth_left, s_truth_right, s_truth_thing, s_truth_fault, s_truth_worth, s_truth_table, s_open_num, s_open_truth, s_open_open, s_open_list, s_open_pair, s_open_either, s_open_left, s_open_right, s_open_thing, s_open_fault, s_open_worth, s_open_table, s_list_num, s_list_truth, s_list_open, s_list_list, s_list_pair, s_list_either, s_list_left, s_list_right, s_list_thing, s_list_fault, s_list_worth, s_list_table, s_pair_num, s_pair_truth, s_pair_open, s_pair_list, s_pair_pair, s_pair_either, s_pair_left, s_pair_right, s_pair_thing, s_pair_fault, s_pair_worth, s_pair_table, s_either_num, s_either_truth, s_either_open, s_either_list, s_either_pair, s_either_either, s_either_left, s_either_right, s_either_thing, s_either_fault, s_either_worth, s_either_table, s_left_num, s_left_truth, s_left_open, s_left_list, s_left_pair, s_left_either, s_left_left, s_left_right, s_left_thing, s_left_fault, s_left_worth, s_left_table, s_right_num, s_right_truth, s_right_open, s_right_list, s_right_pair, s_right_either, s_right_left, s_right_right, s_right_thing, s_right_fault, s_right_worth, s_right_table, s_thing_num, s_thing_truth, s_thing_open, s_thing_list, s_thing_pair, s_thing_either, s_thing_left, s_thing_right, s_thing_thing, s_thing_fault, s_thing_worth, s_thing_table, s_fault_num, s_fault_truth, s_fault_open, s_fault_list, s_fault_pair, s_fault_either, s_fault_left, s_fault_right, s_fault_thing, s_fault_fault, s_fault_worth, s_fault_table, s_worth_num, s_worth_truth, s_worth_open, s_worth_list, s_worth_pair, s_worth_either, s_worth_left, s_worth_right, s_worth_thing, s_worth_fault, s_worth_worth, s_worth_table, s_table_num, s_table_truth, s_table_open, s_table_list, s_table_pair, s_table_either, s_table_left, s_table_right, s_table_thing, s_table_fault, s_table_worth, s_table_table]
          exact this
        | some u =>
          cases h2 : mapW (tell rows) y with
          | none =>
            rw [h1, h2] at this
            try simp only [allT, Option.bind_some, Option.map_none, ev_t0, ev_t1, ev_t2, ev_eqs, ev_eqi, ev_intb, ev_inti, ev_add, ev_sub, ev_lt, ev_gt, ev_sl1, ev_in2, ev_lent, ev_isn, Bool.or_false, Bool.or_true, Bool.false_or, Bool.true_or, eqG_f, eqG_t, kq, Bool.not_true, Bool.not_false, if_true, if_false, ite_true, ite_false, reduceIte, s_num_num, s_num_truth, s_num_open, s_num_list, s_num_pair, s_num_either, s_num_left, s_num_right, s_num_thing, s_num_fault, s_num_worth, s_num_table, s_truth_num, s_truth_truth, s_truth_open, s_truth_list, s_truth_pair, s_truth_either, s_truth_left, s_truth_right, s_truth_thing, s_truth_fault, s_truth_worth, s_truth_table, s_open_num, s_open_truth, s_open_open, s_open_list, s_open_pair, s_open_either, s_open_left, s_open_right, s_open_thing, s_open_fault, s_open_worth, s_open_table, s_list_num, s_list_truth, s_list_open, s_list_list, s_list_pair, s_list_either, s_list_left, s_list_right, s_list_thing, s_list_fault, s_list_worth, s_list_table, s_pair_num, s_pair_truth, s_pair_open, s_pair_list, s_pair_pair, s_pair_either, s_pair_left, s_pair_right, s_pair_thing, s_pair_fault, s_pair_worth, s_pair_table, s_either_num, s_either_truth, s_either_open, s_either_list, s_either_pair, s_either_either, s_either_left, s_either_right, s_either_thing, s_either_fault, s_either_worth, s_either_table, s_left_num, s_left_truth, s_left_open, s_left_list, s_left_pair, s_left_either, s_left_left, s_left_right, s_left_thing, s_left_fault, s_left_worth, s_left_table, s_right_num, s_right_truth, s_right_open, s_right_list, s_right_pair, s_right_either, s_right_left, s_right_right, s_right_thing, s_right_fault, s_right_worth, s_right_table, s_thing_num, s_thing_truth, s_thing_open, s_thing_list, s_thing_pair, s_thing_either, s_thing_left, s_thing_right, s_thing_thing, s_thing_fault, s_thing_worth, s_thing_table, s_fault_num, s_fault_truth, s_fault_open, s_fault_list, s_fault_pair, s_fault_either, s_fault_left, s_fault_right, s_fault_thing, s_fault_fault, s_fault_worth, s_fault_table, s_worth_num, s_worth_truth, s_worth_open, s_worth_list, s_worth_pair, s_worth_either, s_worth_left, s_worth_right, s_worth_thing, s_worth_fault, s_worth_worth, s_worth_table, s_table_num, s_table_truth, s_table_open, s_table_list, s_table_pair, s_table_either, s_table_left, s_table_right, s_table_thing, s_table_fault, s_table_worth, s_table_table]
            exact this
          | some v =>
            rw [h1, h2] at this
            try simp only [allT, Option.bind_some, Option.map_some, ev_t0, ev_t1, ev_t2, ev_eqs, ev_eqi, ev_intb, ev_inti, ev_add, ev_sub, ev_lt, ev_gt, ev_sl1, ev_in2, ev_lent, ev_isn, Bool.or_false, Bool.or_true, Bool.false_or, Bool.true_or, eqG_f, eqG_t, kq, Bool.not_true, Bool.not_false, if_true, if_false, ite_true, ite_false, reduceIte, s_num_num, s_num_truth, s_num_open, s_num_list, s_num_pair, s_num_either, s_num_left, s_num_right, s_num_thing, s_num_fault, s_num_worth, s_num_table, s_truth_num, s_truth_truth, s_truth_open, s_truth_list, s_truth_pair, s_truth_either, s_truth_left, s_truth_right, s_truth_thing, s_truth_fault, s_truth_worth, s_truth_table, s_open_num, s_open_truth, s_open_open, s_open_list, s_open_pair, s_open_either, s_open_left, s_open_right, s_open_thing, s_open_fault, s_open_worth, s_open_table, s_list_num, s_list_truth, s_list_open, s_list_list, s_list_pair, s_list_either, s_list_left, s_list_right, s_list_thing, s_list_fault, s_list_worth, s_list_table, s_pair_num, s_pair_truth, s_pair_open, s_pair_list, s_pair_pair, s_pair_either, s_pair_left, s_pair_right, s_pair_thing, s_pair_fault, s_pair_worth, s_pair_table, s_either_num, s_either_truth, s_either_open, s_either_list, s_either_pair, s_either_either, s_either_left, s_either_right, s_either_thing, s_either_fault, s_either_worth, s_either_table, s_left_num, s_left_truth, s_left_open, s_left_list, s_left_pair, s_left_either, s_left_left, s_left_right, s_left_thing, s_left_fault, s_left_worth, s_left_table, s_right_num, s_right_truth, s_right_open, s_right_list, s_right_pair, s_right_either, s_right_left, s_right_right, s_right_thing, s_right_fault, s_right_worth, s_right_table, s_thing_num, s_thing_truth, s_thing_open, s_thing_list, s_thing_pair, s_thing_either, s_thing_left, s_thing_right, s_thing_thing, s_thing_fault, s_thing_worth, s_thing_table, s_fault_num, s_fault_truth, s_fault_open, s_fault_list, s_fault_pair, s_fault_either, s_fault_left, s_fault_right, s_fault_thing, s_fault_fault, s_fault_worth, s_fault_table, s_worth_num, s_worth_truth, s_worth_open, s_worth_list, s_worth_pair, s_worth_either, s_worth_left, s_worth_right, s_worth_thing, s_worth_fault, s_worth_worth, s_worth_table, s_table_num, s_table_truth, s_table_open, s_table_list, s_table_pair, s_table_either, s_table_left, s_table_right, s_table_thing, s_table_fault, s_table_worth, s_table_table]
            rw [wts_map]
            refine ⟨z4000 (by simp), st_addt (z4000 (by simp)) ?_⟩
            refine ⟨z4000 (by simp), ?_⟩
            simp only [Option.bind_some, Option.map_some, resT, w_pair] at this
            exact this
    | _ => exact hhas.elim
  | eith a b =>
    have hh' : max a.h b.h + 1 < n + 1 := hh
    cases wo with
    | left x =>
      try simp only [t_mapped, Kd.t, w_left, tsNx, tsSeq, tsBrk, tsCt, tsDrop, tsRet, tsRetN, tsIf, tsAsg, tgN, tgsNil, tgsCons, tgTup, tgSub, tsFor, tsWhile, tiSeq, tiRng1, tiRng2, tiZip, tb, tv, tc, tac, tan, ttup, tlst, tq, tand, tor, tnot, tife, tandV, torV, tnotV, tneg, tsl, tno, tpt, tcall, tbi, tml, tml0, tmj, tisi, tlRev, tlRng1, tdisp, tps, tlc, ttYes, bt1, btN, setsT, wipeT, endT, List.getElem?_cons_zero, List.getElem?_cons_succ, List.set_cons_zero, List.set_cons_succ]
      try simp only [ev_t0, ev_t1, ev_t2, ev_eqs, ev_eqi, ev_intb, ev_inti, ev_add, ev_sub, ev_lt, ev_gt, ev_sl1, ev_in2, ev_lent, ev_isn, Bool.or_false, Bool.or_true, Bool.false_or, Bool.true_or, eqG_f, eqG_t, kq, Bool.not_true, Bool.not_false, if_true, if_false, ite_true, ite_false, reduceIte, s_num_num, s_num_truth, s_num_open, s_num_list, s_num_pair, s_num_either, s_num_left, s_num_right, s_num_thing, s_num_fault, s_num_worth, s_num_table, s_truth_num, s_truth_truth, s_truth_open, s_truth_list, s_truth_pair, s_truth_either, s_truth_left, s_truth_right, s_truth_thing, s_truth_fault, s_truth_worth, s_truth_table, s_open_num, s_open_truth, s_open_open, s_open_list, s_open_pair, s_open_either, s_open_left, s_open_right, s_open_thing, s_open_fault, s_open_worth, s_open_table, s_list_num, s_list_truth, s_list_open, s_list_list, s_list_pair, s_list_either, s_list_left, s_list_right, s_list_thing, s_list_fault, s_list_worth, s_list_table, s_pair_num, s_pair_truth, s_pair_open, s_pair_list, s_pair_pair, s_pair_either, s_pair_left, s_pair_right, s_pair_thing, s_pair_fault, s_pair_worth, s_pair_table, s_either_num, s_either_truth, s_either_open, s_either_list, s_either_pair, s_either_either, s_either_left, s_either_right, s_either_thing, s_either_fault, s_either_worth, s_either_table, s_left_num, s_left_truth, s_left_open, s_left_list, s_left_pair, s_left_either, s_left_left, s_left_right, s_left_thing, s_left_fault, s_left_worth, s_left_table, s_right_num, s_right_truth, s_right_open, s_right_list, s_right_pair, s_right_either, s_right_left, s_right_right, s_right_thing, s_right_fault, s_right_worth, s_right_table, s_thing_num, s_thing_truth, s_thing_open, s_thing_list, s_thing_pair, s_thing_either, s_thing_left, s_thing_right, s_thing_thing, s_thing_fault, s_thing_worth, s_thing_table, s_fault_num, s_fault_truth, s_fault_open, s_fault_list, s_fault_pair, s_fault_either, s_fault_left, s_fault_right, s_fault_thing, s_fault_fault, s_fault_worth, s_fault_table, s_worth_num, s_worth_truth, s_worth_open, s_worth_list, s_worth_pair, s_worth_either, s_worth_left, s_worth_right, s_worth_thing, s_worth_fault, s_worth_worth, s_worth_table, s_table_num, s_table_truth, s_table_open, s_table_list, s_table_pair, s_table_either, s_table_left, s_table_right, s_table_thing, s_table_fault, s_table_worth, s_table_table]
      refine ⟨z4000 (by simp), ?_⟩
      try simp only [ev_t0, ev_t1, ev_t2, ev_eqs, ev_eqi, ev_intb, ev_inti, ev_add, ev_sub, ev_lt, ev_gt, ev_sl1, ev_in2, ev_lent, ev_isn, Bool.or_false, Bool.or_true, Bool.false_or, Bool.true_or, eqG_f, eqG_t, kq, Bool.not_true, Bool.not_false, if_true, if_false, ite_true, ite_false, reduceIte, s_num_num, s_num_truth, s_num_open, s_num_list, s_num_pair, s_num_either, s_num_left, s_num_right, s_num_thing, s_num_fault, s_num_worth, s_num_table, s_truth_num, s_truth_truth, s_truth_open, s_truth_list, s_truth_pair, s_truth_either, s_truth_left, s_truth_right, s_truth_thing, s_truth_fault, s_truth_worth, s_truth_table, s_open_num, s_open_truth, s_open_open, s_open_list, s_open_pair, s_open_either, s_open_left, s_open_right, s_open_thing, s_open_fault, s_open_worth, s_open_table, s_list_num, s_list_truth, s_list_open, s_list_list, s_list_pair, s_list_either, s_list_left, s_list_right, s_list_thing, s_list_fault, s_list_worth, s_list_table, s_pair_num, s_pair_truth, s_pair_open, s_pair_list, s_pair_pair, s_pair_either, s_pair_left, s_pair_right, s_pair_thing, s_pair_fault, s_pair_worth, s_pair_table, s_either_num, s_either_truth, s_either_open, s_either_list, s_either_pair, s_either_either, s_either_left, s_either_right, s_either_thing, s_either_fault, s_either_worth, s_either_table, s_left_num, s_left_truth, s_left_open, s_left_list, s_left_pair, s_left_either, s_left_left, s_left_right, s_left_thing, s_left_fault, s_left_worth, s_left_table, s_right_num, s_right_truth, s_right_open, s_right_list, s_right_pair, s_right_either, s_right_left, s_right_right, s_right_thing, s_right_fault, s_right_worth, s_right_table, s_thing_num, s_thing_truth, s_thing_open, s_thing_list, s_thing_pair, s_thing_either, s_thing_left, s_thing_right, s_thing_thing, s_thing_fault, s_thing_worth, s_thing_table, s_fault_num, s_fault_truth, s_fault_open, s_fault_list, s_fault_pair, s_fault_either, s_fault_left, s_fault_right, s_fault_thing, s_fault_fault, s_fault_worth, s_fault_table, s_worth_num, s_worth_truth, s_worth_open, s_worth_list, s_worth_pair, s_worth_either, s_worth_left, s_worth_right, s_worth_thing, s_worth_fault, s_worth_worth, s_worth_table, s_table_num, s_table_truth, s_table_open, s_table_list, s_table_pair, s_table_either, s_table_left, s_table_right, s_table_thing, s_table_fault, s_table_worth, s_table_table]
      intro p S0 hp u
      refine ⟨u.at_, ?_⟩
      rw [lr_keys]
      simp only []
      refine ⟨by simp, fun S2 u2 => ?_⟩
      rw [lr_merge] at u2
      try simp only [ev_t0, ev_t1, ev_t2, ev_eqs, ev_eqi, ev_intb, ev_inti, ev_add, ev_sub, ev_lt, ev_gt, ev_sl1, ev_in2, ev_lent, ev_isn, Bool.or_false, Bool.or_true, Bool.false_or, Bool.true_or, eqG_f, eqG_t, kq, Bool.not_true, Bool.not_false, if_true, if_false, ite_true, ite_false, reduceIte, s_num_num, s_num_truth, s_num_open, s_num_list, s_num_pair, s_num_either, s_num_left, s_num_right, s_num_thing, s_num_fault, s_num_worth, s_num_table, s_truth_num, s_truth_truth, s_truth_open, s_truth_list, s_truth_pair, s_truth_either, s_truth_left, s_truth_right, s_truth_thing, s_truth_fault, s_truth_worth, s_truth_table, s_open_num, s_open_truth, s_open_open, s_open_list, s_open_pair, s_open_either, s_open_left, s_open_right, s_open_thing, s_open_fault, s_open_worth, s_open_table, s_list_num, s_list_truth, s_list_open, s_list_list, s_list_pair, s_list_either, s_list_left, s_list_right, s_list_thing, s_list_fault, s_list_worth, s_list_table, s_pair_num, s_pair_truth, s_pair_open, s_pair_list, s_pair_pair, s_pair_either, s_pair_left, s_pair_right, s_pair_thing, s_pair_fault, s_pair_worth, s_pair_table, s_either_num, s_either_truth, s_either_open, s_either_list, s_either_pair, s_either_either, s_either_left, s_either_right, s_either_thing, s_either_fault, s_either_worth, s_either_table, s_left_num, s_left_truth, s_left_open, s_left_list, s_left_pair, s_left_either, s_left_left, s_left_right, s_left_thing, s_left_fault, s_left_worth, s_left_table, s_right_num, s_right_truth, s_right_open, s_right_list, s_right_pair, s_right_either, s_right_left, s_right_right, s_right_thing, s_right_fault, s_right_worth, s_right_table, s_thing_num, s_thing_truth, s_thing_open, s_thing_list, s_thing_pair, s_thing_either, s_thing_left, s_thing_right, s_thing_thing, s_thing_fault, s_thing_worth, s_thing_table, s_fault_num, s_fault_truth, s_fault_open, s_fault_list, s_fault_pair, s_fault_either, s_fault_left, s_fault_right, s_fault_thing, s_fault_fault, s_fault_worth, s_fault_table, s_worth_num, s_worth_truth, s_worth_open, s_worth_list, s_worth_pair, s_worth_either, s_worth_left, s_worth_right, s_worth_thing, s_worth_fault, s_worth_worth, s_worth_table, s_table_num, s_table_truth, s_table_open, s_table_list, s_table_pair, s_table_either, s_table_left, s_table_right, s_table_thing, s_table_fault, s_table_worth, s_table_table]
      refine st_ixd u2.at_ rfl lr_left ?_
      try simp only [ev_t0, ev_t1, ev_t2, ev_eqs, ev_eqi, ev_intb, ev_inti, ev_add, ev_sub, ev_lt, ev_gt, ev_sl1, ev_in2, ev_lent, ev_isn, Bool.or_false, Bool.or_true, Bool.false_or, Bool.true_or, eqG_f, eqG_t, kq, Bool.not_true, Bool.not_false, if_true, if_false, ite_true, ite_false, reduceIte, s_num_num, s_num_truth, s_num_open, s_num_list, s_num_pair, s_num_either, s_num_left, s_num_right, s_num_thing, s_num_fault, s_num_worth, s_num_table, s_truth_num, s_truth_truth, s_truth_open, s_truth_list, s_truth_pair, s_truth_either, s_truth_left, s_truth_right, s_truth_thing, s_truth_fault, s_truth_worth, s_truth_table, s_open_num, s_open_truth, s_open_open, s_open_list, s_open_pair, s_open_either, s_open_left, s_open_right, s_open_thing, s_open_fault, s_open_worth, s_open_table, s_list_num, s_list_truth, s_list_open, s_list_list, s_list_pair, s_list_either, s_list_left, s_list_right, s_list_thing, s_list_fault, s_list_worth, s_list_table, s_pair_num, s_pair_truth, s_pair_open, s_pair_list, s_pair_pair, s_pair_either, s_pair_left, s_pair_right, s_pair_thing, s_pair_fault, s_pair_worth, s_pair_table, s_either_num, s_either_truth, s_either_open, s_either_list, s_either_pair, s_either_either, s_either_left, s_either_right, s_either_thing, s_either_fault, s_either_worth, s_either_table, s_left_num, s_left_truth, s_left_open, s_left_list, s_left_pair, s_left_either, s_left_left, s_left_right, s_left_thing, s_left_fault, s_left_worth, s_left_table, s_right_num, s_right_truth, s_right_open, s_right_list, s_right_pair, s_right_either, s_right_left, s_right_right, s_right_thing, s_right_fault, s_right_worth, s_right_table, s_thing_num, s_thing_truth, s_thing_open, s_thing_list, s_thing_pair, s_thing_either, s_thing_left, s_thing_right, s_thing_thing, s_thing_fault, s_thing_worth, s_thing_table, s_fault_num, s_fault_truth, s_fault_open, s_fault_list, s_fault_pair, s_fault_either, s_fault_left, s_fault_right, s_fault_thing, s_fault_fault, s_fault_worth, s_fault_table, s_worth_num, s_worth_truth, s_worth_open, s_worth_list, s_worth_pair, s_worth_either, s_worth_left, s_worth_right, s_worth_thing, s_worth_fault, s_worth_worth, s_worth_table, s_table_num, s_table_truth, s_table_open, s_table_list, s_table_pair, s_table_either, s_table_left, s_table_right, s_table_thing, s_table_fault, s_table_worth, s_table_table]
      have x2 : Ex S S2 := fun c o h => u2.get (nn hp h) (u.get (nn hp h) h)
      refine st_lst (by simp) (nw fun p3 S3 hp3 hpp3 x3 => ?_)
      refine ⟨rfl, rows, [a], [x], _, by rw [wts_map]; rfl, ok, ?_, rfl, by simp, fun k' hk' => ?_, fun i k' w h1 h2 => ?_, fun S4 x4 => ?_⟩
      · show ((lstAt S3 p3).map fun xs => (false, xs)).map (·.2) = _
        rw [lstAt_of hpp3]; rfl
      · rw [List.mem_singleton.mp hk']; omega
      · match i, h1, h2 with
        | 0, h1, h2 => cases h1; cases h2; exact hhas
        | i + 1, h1, _ => cases h1
      · have := q S4 ((x2.trans x3).trans x4)
        rw [m_left] at this
        rw [ms_one]
        cases h1 : mapW (tell rows) x with
        | none =>
          rw [h1] at this
          try simp only [allT, Option.map_none, ev_t0, ev_t1, ev_t2, ev_eqs, ev_eqi, ev_intb, ev_inti, ev_add, ev_sub, ev_lt, ev_gt, ev_sl1, ev_in2, ev_lent, ev_isn, Bool.or_false, Bool.or_true, Bool.false_or, Bool.true_or, eqG_f, eqG_t, kq, Bool.not_true, Bool.not_false, if_true, if_false, ite_true, ite_false, reduceIte, s_num_num, s_num_truth, s_num_open, s_num_list, s_num_pair, s_num_either, s_num_left, s_num_right, s_num_thing, s_num_fault, s_num_worth, s_num_table, s_truth_num, s_truth_truth, s_truth_open, s_truth_list, s_truth_pair, s_truth_either, s_truth_left, s_truth_right, s_truth_thing, s_truth_fault, s_truth_worth, s_truth_table, s_open_num, s_open_truth, s_open_open, s_open_list, s_open_pair, s_open_either, s_open_left, s_open_right, s_open_thing, s_open_fault, s_open_worth, s_open_table, s_list_num, s_list_truth, s_list_open, s_list_list, s_list_pair, s_list_either, s_list_left, s_list_right, s_list_thing, s_list_fault, s_list_worth, s_list_table, s_pair_num, s_pair_truth, s_pair_open, s_pair_list, s_pair_pair, s_pair_either, s_pair_left, s_pair_right, s_pair_thing, s_pair_fault, s_pair_worth, s_pair_table, s_either_num, s_either_truth, s_either_open, s_either_list, s_either_pair, s_either_either, s_either_left, s_either_right, s_either_thing, s_either_fault, s_either_worth, s_either_table, s_left_num, s_left_truth, s_left_open, s_left_list, s_left_pair, s_left_either, s_left_left, s_left_right, s_left_thing, s_left_fault, s_left_worth, s_left_table, s_right_num, s_right_truth, s_right_open, s_right_list, s_right_pair, s_right_either, s_right_left, s_right_right, s_right_thing, s_right_fault, s_right_worth, s_right_table, s_thing_num, s_thing_truth, s_thing_open, s_thing_list, s_thing_pair, s_thing_either, s_thing_left, s_thing_right, s_thing_thing, s_thing_fault, s_thing_worth, s_thing_table, s_fault_num, s_fault_truth, s_fault_open, s_fault_list, s_fault_pair, s_fault_either, s_fault_left, s_fault_right, s_fault_thing, s_fault_fault, s_fault_worth, s_fault_table, s_worth_num, s_worth_truth, s_worth_open, s_worth_list, s_worth_pair, s_worth_either, s_worth_left, s_worth_right, s_worth_thing, s_worth_fault, s_worth_worth, s_worth_table, s_table_num, s_table_truth, s_table_open, s_table_list, s_table_pair, s_table_either, s_table_left, s_table_right, s_table_thing, s_table_fault, s_table_worth, s_table_table]
          exact this
        | some u =>
          rw [h1] at this
          try simp only [allT, Option.map_some, ev_t0, ev_t1, ev_t2, ev_eqs, ev_eqi, ev_intb, ev_inti, ev_add, ev_sub, ev_lt, ev_gt, ev_sl1, ev_in2, ev_lent, ev_isn, Bool.or_false, Bool.or_true, Bool.false_or, Bool.true_or, eqG_f, eqG_t, kq, Bool.not_true, Bool.not_false, if_true, if_false, ite_true, ite_false, reduceIte, s_num_num, s_num_truth, s_num_open, s_num_list, s_num_pair, s_num_either, s_num_left, s_num_right, s_num_thing, s_num_fault, s_num_worth, s_num_table, s_truth_num, s_truth_truth, s_truth_open, s_truth_list, s_truth_pair, s_truth_either, s_truth_left, s_truth_right, s_truth_thing, s_truth_fault, s_truth_worth, s_truth_table, s_open_num, s_open_truth, s_open_open, s_open_list, s_open_pair, s_open_either, s_open_left, s_open_right, s_open_thing, s_open_fault, s_open_worth, s_open_table, s_list_num, s_list_truth, s_list_open, s_list_list, s_list_pair, s_list_either, s_list_left, s_list_right, s_list_thing, s_list_fault, s_list_worth, s_list_table, s_pair_num, s_pair_truth, s_pair_open, s_pair_list, s_pair_pair, s_pair_either, s_pair_left, s_pair_right, s_pair_thing, s_pair_fault, s_pair_worth, s_pair_table, s_either_num, s_either_truth, s_either_open, s_either_list, s_either_pair, s_either_either, s_either_left, s_either_right, s_either_thing, s_either_fault, s_either_worth, s_either_table, s_left_num, s_left_truth, s_left_open, s_left_list, s_left_pair, s_left_either, s_left_left, s_left_right, s_left_thing, s_left_fault, s_left_worth, s_left_table, s_right_num, s_right_truth, s_right_open, s_right_list, s_right_pair, s_right_either, s_right_left, s_right_right, s_right_thing, s_right_fault, s_right_worth, s_right_table, s_thing_num, s_thing_truth, s_thing_open, s_thing_list, s_thing_pair, s_thing_either, s_thing_left, s_thing_right, s_thing_thing, s_thing_fault, s_thing_worth, s_thing_table, s_fault_num, s_fault_truth, s_fault_open, s_fault_list, s_fault_pair, s_fault_either, s_fault_left, s_fault_right, s_fault_thing, s_fault_fault, s_fault_worth, s_fault_table, s_worth_num, s_worth_truth, s_worth_open, s_worth_list, s_worth_pair, s_worth_either, s_worth_left, s_worth_right, s_worth_thing, s_worth_fault, s_worth_worth, s_worth_table, s_table_num, s_table_truth, s_table_open, s_table_list, s_table_pair, s_table_either, s_table_left, s_table_right, s_table_thing, s_table_fault, s_table_worth, s_table_table]
          rw [wts_map]
          refine ⟨z4000 (by simp), st_addt (z4000 (by simp)) ?_⟩
          refine ⟨z4000 (by simp), ?_⟩
          simp only [Option.map_some, resT, w_left] at this
          exact this
    | right x =>
      try simp only [t_mapped, Kd.t, w_right, tsNx, tsSeq, tsBrk, tsCt, tsDrop, tsRet, tsRetN, tsIf, tsAsg, tgN, tgsNil, tgsCons, tgTup, tgSub, tsFor, tsWhile, tiSeq, tiRng1, tiRng2, tiZip, tb, tv, tc, tac, tan, ttup, tlst, tq, tand, tor, tnot, tife, tandV, torV, tnotV, tneg, tsl, tno, tpt, tcall, tbi, tml, tml0, tmj, tisi, tlRev, tlRng1, tdisp, tps, tlc, ttYes, bt1, btN, setsT, wipeT, endT, List.getElem?_cons_zero, List.getElem?_cons_succ, List.set_cons_zero, List.set_cons_succ]
      try simp only [ev_t0, ev_t1, ev_t2, ev_eqs, ev_eqi, ev_intb, ev_inti, ev_add, ev_sub, ev_lt, ev_gt, ev_sl1, ev_in2, ev_lent, ev_isn, Bool.or_false, Bool.or_true, Bool.false_or, Bool.true_or, eqG_f, eqG_t, kq, Bool.not_true, Bool.not_false, if_true, if_false, ite_true, ite_false, reduceIte, s_num_num, s_num_truth, s_num_open, s_num_list, s_num_pair, s_num_either, s_num_left, s_num_right, s_num_thing, s_num_fault, s_num_worth, s_num_table, s_truth_num, s_truth_truth, s_truth_open, s_truth_list, s_truth_pair, s_truth_either, s_truth_left, s_truth_right, s_truth_thing, s_truth_fault, s_truth_worth, s_truth_table, s_open_num, s_open_truth, s_open_open, s_open_list, s_open_pair, s_open_either, s_open_left, s_open_right, s_open_thing, s_open_fault, s_open_worth, s_open_table, s_list_num, s_list_truth, s_list_open, s_list_list, s_list_pair, s_list_either, s_list_left, s_list_right, s_list_thing, s_list_fault, s_list_worth, s_list_table, s_pair_num, s_pair_truth, s_pair_open, s_pair_list, s_pair_pair, s_pair_either, s_pair_left, s_pair_right, s_pair_thing, s_pair_fault, s_pair_worth, s_pair_table, s_either_num, s_either_truth, s_either_open, s_either_list, s_either_pair, s_either_either, s_either_left, s_either_right, s_either_thing, s_either_fault, s_either_worth, s_either_table, s_left_num, s_left_truth, s_left_open, s_left_list, s_left_pair, s_left_either, s_left_left, s_left_right, s_left_thing, s_left_fault, s_left_worth, s_left_table, s_right_num, s_right_truth, s_right_open, s_right_list, s_right_pair, s_right_either, s_right_left, s_right_right, s_right_thing, s_right_fault, s_right_worth, s_right_table, s_thing_num, s_thing_truth, s_thing_open, s_thing_list, s_thing_pair, s_thing_either, s_thing_left, s_thing_right, s_thing_thing, s_thing_fault, s_thing_worth, s_thing_table, s_fault_num, s_fault_truth, s_fault_open, s_fault_list, s_fault_pair, s_fault_either, s_fault_left, s_fault_right, s_fault_thing, s_fault_fault, s_fault_worth, s_fault_table, s_worth_num, s_worth_truth, s_worth_open, s_worth_list, s_worth_pair, s_worth_either, s_worth_left, s_worth_right, s_worth_thing, s_worth_fault, s_worth_worth, s_worth_table, s_table_num, s_table_truth, s_table_open, s_table_list, s_table_pair, s_table_either, s_table_left, s_table_right, s_table_thing, s_table_fault, s_table_worth, s_table_table]
      refine ⟨z4000 (by simp), ?_⟩
      try simp only [ev_t0, ev_t1, ev_t2, ev_eqs, ev_eqi, ev_intb, ev_inti, ev_add, ev_sub, ev_lt, ev_gt, ev_sl1, ev_in2, ev_lent, ev_isn, Bool.or_false, Bool.or_true, Bool.false_or, Bool.true_or, eqG_f, eqG_t, kq, Bool.not_true, Bool.not_false, if_true, if_false, ite_true, ite_false, reduceIte, s_num_num, s_num_truth, s_num_open, s_num_list, s_num_pair, s_num_either, s_num_left, s_num_right, s_num_thing, s_num_fault, s_num_worth, s_num_table, s_truth_num, s_truth_truth, s_truth_open, s_truth_list, s_truth_pair, s_truth_either, s_truth_left, s_truth_right, s_truth_thing, s_truth_fault, s_truth_worth, s_truth_table, s_open_num, s_open_truth, s_open_open, s_open_list, s_open_pair, s_open_either, s_open_left, s_open_right, s_open_thing, s_open_fault, s_open_worth, s_open_table, s_list_num, s_list_truth, s_list_open, s_list_list, s_list_pair, s_list_either, s_list_left, s_list_right, s_list_thing, s_list_fault, s_list_worth, s_list_table, s_pair_num, s_pair_truth, s_pair_open, s_pair_list, s_pair_pair, s_pair_either, s_pair_left, s_pair_right, s_pair_thing, s_pair_fault, s_pair_worth, s_pair_table, s_either_num, s_either_truth, s_either_open, s_either_list, s_either_pair, s_either_either, s_either_left, s_either_right, s_either_thing, s_either_fault, s_either_worth, s_either_table, s_left_num, s_left_truth, s_left_open, s_left_list, s_left_pair, s_left_either, s_left_left, s_left_right, s_left_thing, s_left_fault, s_left_worth, s_left_table, s_right_num, s_right_truth, s_right_open, s_right_list, s_right_pair, s_right_either, s_right_left, s_right_right, s_right_thing, s_right_fault, s_right_worth, s_right_table, s_thing_num, s_thing_truth, s_thing_open, s_thing_list, s_thing_pair, s_thing_either, s_thing_left, s_thing_right, s_thing_thing, s_thing_fault, s_thing_worth, s_thing_table, s_fault_num, s_fault_truth, s_fault_open, s_fault_list, s_fault_pair, s_fault_either, s_fault_left, s_fault_right, s_fault_thing, s_fault_fault, s_fault_worth, s_fault_table, s_worth_num, s_worth_truth, s_worth_open, s_worth_list, s_worth_pair, s_worth_either, s_worth_left, s_worth_right, s_worth_thing, s_worth_fault, s_worth_worth, s_worth_table, s_table_num, s_table_truth, s_table_open, s_table_list, s_table_pair, s_table_either, s_table_left, s_table_right, s_table_thing, s_table_fault, s_table_worth, s_table_table]
      intro p S0 hp u
      refine ⟨u.at_, ?_⟩
      rw [lr_keys]
      simp only []
      refine ⟨by simp, fun S2 u2 => ?_⟩
      rw [lr_merge] at u2
      try simp only [ev_t0, ev_t1, ev_t2, ev_eqs, ev_eqi, ev_intb, ev_inti, ev_add, ev_sub, ev_lt, ev_gt, ev_sl1, ev_in2, ev_lent, ev_isn, Bool.or_false, Bool.or_true, Bool.false_or, Bool.true_or, eqG_f, eqG_t, kq, Bool.not_true, Bool.not_false, if_true, if_false, ite_true, ite_false, reduceIte, s_num_num, s_num_truth, s_num_open, s_num_list, s_num_pair, s_num_either, s_num_left, s_num_right, s_num_thing, s_num_fault, s_num_worth, s_num_table, s_truth_num, s_truth_truth, s_truth_open, s_truth_list, s_truth_pair, s_truth_either, s_truth_left, s_truth_right, s_truth_thing, s_truth_fault, s_truth_worth, s_truth_table, s_open_num, s_open_truth, s_open_open, s_open_list, s_open_pair, s_open_either, s_open_left, s_open_right, s_open_thing, s_open_fault, s_open_worth, s_open_table, s_list_num, s_list_truth, s_list_open, s_list_list, s_list_pair, s_list_either, s_list_left, s_list_right, s_list_thing, s_list_fault, s_list_worth, s_list_table, s_pair_num, s_pair_truth, s_pair_open, s_pair_list, s_pair_pair, s_pair_either, s_pair_left, s_pair_right, s_pair_thing, s_pair_fault, s_pair_worth, s_pair_table, s_either_num, s_either_truth, s_either_open, s_either_list, s_either_pair, s_either_either, s_either_left, s_either_right, s_either_thing, s_either_fault, s_either_worth, s_either_table, s_left_num, s_left_truth, s_left_open, s_left_list, s_left_pair, s_left_either, s_left_left, s_left_right, s_left_thing, s_left_fault, s_left_worth, s_left_table, s_right_num, s_right_truth, s_right_open, s_right_list, s_right_pair, s_right_either, s_right_left, s_right_right, s_right_thing, s_right_fault, s_right_worth, s_right_table, s_thing_num, s_thing_truth, s_thing_open, s_thing_list, s_thing_pair, s_thing_either, s_thing_left, s_thing_right, s_thing_thing, s_thing_fault, s_thing_worth, s_thing_table, s_fault_num, s_fault_truth, s_fault_open, s_fault_list, s_fault_pair, s_fault_either, s_fault_left, s_fault_right, s_fault_thing, s_fault_fault, s_fault_worth, s_fault_table, s_worth_num, s_worth_truth, s_worth_open, s_worth_list, s_worth_pair, s_worth_either, s_worth_left, s_worth_right, s_worth_thing, s_worth_fault, s_worth_worth, s_worth_table, s_table_num, s_table_truth, s_table_open, s_table_list, s_table_pair, s_table_either, s_table_left, s_table_right, s_table_thing, s_table_fault, s_table_worth, s_table_table]
      refine st_ixd u2.at_ rfl lr_right ?_
      try simp only [ev_t0, ev_t1, ev_t2, ev_eqs, ev_eqi, ev_intb, ev_inti, ev_add, ev_sub, ev_lt, ev_gt, ev_sl1, ev_in2, ev_lent, ev_isn, Bool.or_false, Bool.or_true, Bool.false_or, Bool.true_or, eqG_f, eqG_t, kq, Bool.not_true, Bool.not_false, if_true, if_false, ite_true, ite_false, reduceIte, s_num_num, s_num_truth, s_num_open, s_num_list, s_num_pair, s_num_either, s_num_left, s_num_right, s_num_thing, s_num_fault, s_num_worth, s_num_table, s_truth_num, s_truth_truth, s_truth_open, s_truth_list, s_truth_pair, s_truth_either, s_truth_left, s_truth_right, s_truth_thing, s_truth_fault, s_truth_worth, s_truth_table, s_open_num, s_open_truth, s_open_open, s_open_list, s_open_pair, s_open_either, s_open_left, s_open_right, s_open_thing, s_open_fault, s_open_worth, s_open_table, s_list_num, s_list_truth, s_list_open, s_list_list, s_list_pair, s_list_either, s_list_left, s_list_right, s_list_thing, s_list_fault, s_list_worth, s_list_table, s_pair_num, s_pair_truth, s_pair_open, s_pair_list, s_pair_pair, s_pair_either, s_pair_left, s_pair_right, s_pair_thing, s_pair_fault, s_pair_worth, s_pair_table, s_either_num, s_either_truth, s_either_open, s_either_list, s_either_pair, s_either_either, s_either_left, s_either_right, s_either_thing, s_either_fault, s_either_worth, s_either_table, s_left_num, s_left_truth, s_left_open, s_left_list, s_left_pair, s_left_either, s_left_left, s_left_right, s_left_thing, s_left_fault, s_left_worth, s_left_table, s_right_num, s_right_truth, s_right_open, s_right_list, s_right_pair, s_right_either, s_right_left, s_right_right, s_right_thing, s_right_fault, s_right_worth, s_right_table, s_thing_num, s_thing_truth, s_thing_open, s_thing_list, s_thing_pair, s_thing_either, s_thing_left, s_thing_right, s_thing_thing, s_thing_fault, s_thing_worth, s_thing_table, s_fault_num, s_fault_truth, s_fault_open, s_fault_list, s_fault_pair, s_fault_either, s_fault_left, s_fault_right, s_fault_thing, s_fault_fault, s_fault_worth, s_fault_table, s_worth_num, s_worth_truth, s_worth_open, s_worth_list, s_worth_pair, s_worth_either, s_worth_left, s_worth_right, s_worth_thing, s_worth_fault, s_worth_worth, s_worth_table, s_table_num, s_table_truth, s_table_open, s_table_list, s_table_pair, s_table_either, s_table_left, s_table_right, s_table_thing, s_table_fault, s_table_worth, s_table_table]
      have x2 : Ex S S2 := fun c o h => u2.get (nn hp h) (u.get (nn hp h) h)
      refine st_lst (by simp) (nw fun p3 S3 hp3 hpp3 x3 => ?_)
      refine ⟨rfl, rows, [b], [x], _, by rw [wts_map]; rfl, ok, ?_, rfl, by simp, fun k' hk' => ?_, fun i k' w h1 h2 => ?_, fun S4 x4 => ?_⟩
      · show ((lstAt S3 p3).map fun xs => (false, xs)).map (·.2) = _
        rw [lstAt_of hpp3]; rfl
      · rw [List.mem_singleton.mp hk']; omega
      · match i, h1, h2 with
        | 0, h1, h2 => cases h1; cases h2; exact hhas
        | i + 1, h1, _ => cases h1
      · have := q S4 ((x2.trans x3).trans x4)
        rw [m_right] at this
        rw [ms_one]
        cases h1 : mapW (tell rows) x with
        | none =>
          rw [h1] at this
          try simp only [allT, Option.map_none, ev_t0, ev_t1, ev_t2, ev_eqs, ev_eqi, ev_intb, ev_inti, ev_add, ev_sub, ev_lt, ev_gt, ev_sl1, ev_in2, ev_lent, ev_isn, Bool.or_false, Bool.or_true, Bool.false_or, Bool.true_or, eqG_f, eqG_t, kq, Bool.not_true, Bool.not_false, if_true, if_false, ite_true, ite_false, reduceIte, s_num_num, s_num_truth, s_num_open, s_num_list, s_num_pair, s_num_either, s_num_left, s_num_right, s_num_thing, s_num_fault, s_num_worth, s_num_table, s_truth_num, s_truth_truth, s_truth_open, s_truth_list, s_truth_pair, s_truth_either, s_truth_left, s_truth_right, s_truth_thing, s_truth_fault, s_truth_worth, s_truth_table, s_open_num, s_open_truth, s_open_open, s_open_list, s_open_pair, s_open_either, s_open_left, s_open_right, s_open_thing, s_open_fault, s_open_worth, s_open_table, s_list_num, s_list_truth, s_list_open, s_list_list, s_list_pair, s_list_either, s_list_left, s_list_right, s_list_thing, s_list_fault, s_list_worth, s_list_table, s_pair_num, s_pair_truth, s_pair_open, s_pair_list, s_pair_pair, s_pair_either, s_pair_left, s_pair_right, s_pair_thing, s_pair_fault, s_pair_worth, s_pair_table, s_either_num, s_either_truth, s_either_open, s_either_list, s_either_pair, s_either_either, s_either_left, s_either_right, s_either_thing, s_either_fault, s_either_worth, s_either_table, s_left_num, s_left_truth, s_left_open, s_left_list, s_left_pair, s_left_either, s_left_left, s_left_right, s_left_thing, s_left_fault, s_left_worth, s_left_table, s_right_num, s_right_truth, s_right_open, s_right_list, s_right_pair, s_right_either, s_right_left, s_right_right, s_right_thing, s_right_fault, s_right_worth, s_right_table, s_thing_num, s_thing_truth, s_thing_open, s_thing_list, s_thing_pair, s_thing_either, s_thing_left, s_thing_right, s_thing_thing, s_thing_fault, s_thing_worth, s_thing_table, s_fault_num, s_fault_truth, s_fault_open, s_fault_list, s_fault_pair, s_fault_either, s_fault_left, s_fault_right, s_fault_thing, s_fault_fault, s_fault_worth, s_fault_table, s_worth_num, s_worth_truth, s_worth_open, s_worth_list, s_worth_pair, s_worth_either, s_worth_left, s_worth_right, s_worth_thing, s_worth_fault, s_worth_worth, s_worth_table, s_table_num, s_table_truth, s_table_open, s_table_list, s_table_pair, s_table_either, s_table_left, s_table_right, s_table_thing, s_table_fault, s_table_worth, s_table_table]
          exact this
        | some u =>
          rw [h1] at this
          try simp only [allT, Option.map_some, ev_t0, ev_t1, ev_t2, ev_eqs, ev_eqi, ev_intb, ev_inti, ev_add, ev_sub, ev_lt, ev_gt, ev_sl1, ev_in2, ev_lent, ev_isn, Bool.or_false, Bool.or_true, Bool.false_or, Bool.true_or, eqG_f, eqG_t, kq, Bool.not_true, Bool.not_false, if_true, if_false, ite_true, ite_false, reduceIte, s_num_num, s_num_truth, s_num_open, s_num_list, s_num_pair, s_num_either, s_num_left, s_num_right, s_num_thing, s_num_fault, s_num_worth, s_num_table, s_truth_num, s_truth_truth, s_truth_open, s_truth_list, s_truth_pair, s_truth_either, s_truth_left, s_truth_right, s_truth_thing, s_truth_fault, s_truth_worth, s_truth_table, s_open_num, s_open_truth, s_open_open, s_open_list, s_open_pair, s_open_either, s_open_left, s_open_right, s_open_thing, s_open_fault, s_open_worth, s_open_table, s_list_num, s_list_truth, s_list_open, s_list_list, s_list_pair, s_list_either, s_list_left, s_list_right, s_list_thing, s_list_fault, s_list_worth, s_list_table, s_pair_num, s_pair_truth, s_pair_open, s_pair_list, s_pair_pair, s_pair_either, s_pair_left, s_pair_right, s_pair_thing, s_pair_fault, s_pair_worth, s_pair_table, s_either_num, s_either_truth, s_either_open, s_either_list, s_either_pair, s_either_either, s_either_left, s_either_right, s_either_thing, s_either_fault, s_either_worth, s_either_table, s_left_num, s_left_truth, s_left_open, s_left_list, s_left_pair, s_left_either, s_left_left, s_left_right, s_left_thing, s_left_fault, s_left_worth, s_left_table, s_right_num, s_right_truth, s_right_open, s_right_list, s_right_pair, s_right_either, s_right_left, s_right_right, s_right_thing, s_right_fault, s_right_worth, s_right_table, s_thing_num, s_thing_truth, s_thing_open, s_thing_list, s_thing_pair, s_thing_either, s_thing_left, s_thing_right, s_thing_thing, s_thing_fault, s_thing_worth, s_thing_table, s_fault_num, s_fault_truth, s_fault_open, s_fault_list, s_fault_pair, s_fault_either, s_fault_left, s_fault_right, s_fault_thing, s_fault_fault, s_fault_worth, s_fault_table, s_worth_num, s_worth_truth, s_worth_open, s_worth_list, s_worth_pair, s_worth_either, s_worth_left, s_worth_right, s_worth_thing, s_worth_fault, s_worth_worth, s_worth_table, s_table_num, s_table_truth, s_table_open, s_table_list, s_table_pair, s_table_either, s_table_left, s_table_right, s_table_thing, s_table_fault, s_table_worth, s_table_table]
          rw [wts_map]
          refine ⟨z4000 (by simp), st_addt (z4000 (by simp)) ?_⟩
          refine ⟨z4000 (by simp), ?_⟩
          simp only [Option.map_some, resT, w_right] at this
          exact this
    | _ => exact hhas.elim
theorem t_non : ∀ w : W, (match W.t w with | .non => true | _ => false) = false
  | .num n => by rw [w_num]
  | .tru b => by rw [w_tru]
  | .thing x k => by rw [w_thing]
  | .lst ws => by rw [w_lst]
  | .left w => by rw [w_left]
  | .right w => by rw [w_right]
  | .pair a b => by rw [w_pair]
theorem vc_bare (ts : List T) (S : Sto) (Q : T → Sto → Prop) (hl : ts.length = 1) (h : spBare ts S Q) : t_Lbare (endT Q) (startT N_Lbare.length ts) S := by
  obtain ⟨o, rfl, q⟩ := h
  rw [show startT N_Lbare.length [optT o] = [some (optT o)] from rfl]
  cases o with
  | none =>
    try simp only [t_Lbare, optT, tsNx, tsSeq, tsBrk, tsCt, tsDrop, tsRet, tsRetN, tsIf, tsAsg, tgN, tgsNil, tgsCons, tgTup, tgSub, tsFor, tsWhile, tiSeq, tiRng1, tiRng2, tiZip, tb, tv, tc, tac, tan, ttup, tlst, tq, tand, tor, tnot, tife, tandV, torV, tnotV, tneg, tsl, tno, tpt, tcall, tbi, tml, tml0, tmj, tisi, tlRev, tlRng1, tdisp, tps, tlc, ttYes, bt1, btN, setsT, wipeT, endT, List.getElem?_cons_zero, List.getElem?_cons_succ, List.set_cons_zero, List.set_cons_succ]
    try simp only [ev_t0, ev_t1, ev_t2, ev_eqs, ev_eqi, ev_intb, ev_inti, ev_add, ev_sub, ev_lt, ev_gt, ev_sl1, ev_in2, ev_lent, ev_isn, Bool.or_false, Bool.or_true, Bool.false_or, Bool.true_or, eqG_f, eqG_t, kq, Bool.not_true, Bool.not_false, if_true, if_false, ite_true, ite_false, reduceIte, s_num_num, s_num_truth, s_num_open, s_num_list, s_num_pair, s_num_either, s_num_left, s_num_right, s_num_thing, s_num_fault, s_num_worth, s_num_table, s_truth_num, s_truth_truth, s_truth_open, s_truth_list, s_truth_pair, s_truth_either, s_truth_left, s_truth_right, s_truth_thing, s_truth_fault, s_truth_worth, s_truth_table, s_open_num, s_open_truth, s_open_open, s_open_list, s_open_pair, s_open_either, s_open_left, s_open_right, s_open_thing, s_open_fault, s_open_worth, s_open_table, s_list_num, s_list_truth, s_list_open, s_list_list, s_list_pair, s_list_either, s_list_left, s_list_right, s_list_thing, s_list_fault, s_list_worth, s_list_table, s_pair_num, s_pair_truth, s_pair_open, s_pair_list, s_pair_pair, s_pair_either, s_pair_left, s_pair_right, s_pair_thing, s_pair_fault, s_pair_worth, s_pair_table, s_either_num, s_either_truth, s_either_open, s_either_list, s_either_pair, s_either_either, s_either_left, s_either_right, s_either_thing, s_either_fault, s_either_worth, s_either_table, s_left_num, s_left_truth, s_left_open, s_left_list, s_left_pair, s_left_either, s_left_left, s_left_right, s_left_thing, s_left_fault, s_left_worth, s_left_table, s_right_num, s_right_truth, s_right_open, s_right_list, s_right_pair, s_right_either, s_right_left, s_right_right, s_right_thing, s_right_fault, s_right_worth, s_right_table, s_thing_num, s_thing_truth, s_thing_open, s_thing_list, s_thing_pair, s_thing_either, s_thing_left, s_thing_right, s_thing_thing, s_thing_fault, s_thing_worth, s_thing_table, s_fault_num, s_fault_truth, s_fault_open, s_fault_list, s_fault_pair, s_fault_either, s_fault_left, s_fault_right, s_fault_thing, s_fault_fault, s_fault_worth, s_fault_table, s_worth_num, s_worth_truth, s_worth_open, s_worth_list, s_worth_pair, s_worth_either, s_worth_left, s_worth_right, s_worth_thing, s_worth_fault, s_worth_worth, s_worth_table, s_table_num, s_table_truth, s_table_open, s_table_list, s_table_pair, s_table_either, s_table_left, s_table_right, s_table_thing, s_table_fault, s_table_worth, s_table_table]
    exact ⟨z4000 (by simp), q⟩
  | some w =>
    simp only [resT] at q
    cases w <;> simp only [w_num, w_tru, w_thing, w_lst, w_left, w_right, w_pair] at q <;> (try simp only [t_Lbare, optT, w_num, w_tru, w_thing, w_lst, w_left, w_right, w_pair, tsNx, tsSeq, tsBrk, tsCt, tsDrop, tsRet, tsRetN, tsIf, tsAsg, tgN, tgsNil, tgsCons, tgTup, tgSub, tsFor, tsWhile, tiSeq, tiRng1, tiRng2, tiZip, tb, tv, tc, tac, tan, ttup, tlst, tq, tand, tor, tnot, tife, tandV, torV, tnotV, tneg, tsl, tno, tpt, tcall, tbi, tml, tml0, tmj, tisi, tlRev, tlRng1, tdisp, tps, tlc, ttYes, bt1, btN, setsT, wipeT, endT, List.getElem?_cons_zero, List.getElem?_cons_succ, List.set_cons_zero, List.set_cons_succ]) <;> (try simp only [ev_t0, ev_t1, ev_t2, ev_eqs, ev_eqi, ev_intb, ev_inti, ev_add, ev_sub, ev_lt, ev_gt, ev_sl1, ev_in2, ev_lent, ev_isn, Bool.or_false, Bool.or_true, Bool.false_or, Bool.true_or, eqG_f, eqG_t, kq, Bool.not_true, Bool.not_false, if_true, if_false, ite_true, ite_false, reduceIte, s_num_num, s_num_truth, s_num_open, s_num_list, s_num_pair, s_num_either, s_num_left, s_num_right, s_num_thing, s_num_fault, s_num_worth, s_num_table, s_truth_num, s_truth_truth, s_truth_open, s_truth_list, s_truth_pair, s_truth_either, s_truth_left, s_truth_right, s_truth_thing, s_truth_fault, s_truth_worth, s_truth_table, s_open_num, s_open_truth, s_open_open, s_open_list, s_open_pair, s_open_either, s_open_left, s_open_right, s_open_thing, s_open_fault, s_open_worth, s_open_table, s_list_num, s_list_truth, s_list_open, s_list_list, s_list_pair, s_list_either, s_list_left, s_list_right, s_list_thing, s_list_fault, s_list_worth, s_list_table, s_pair_num, s_pair_truth, s_pair_open, s_pair_list, s_pair_pair, s_pair_either, s_pair_left, s_pair_right, s_pair_thing, s_pair_fault, s_pair_worth, s_pair_table, s_either_num, s_either_truth, s_either_open, s_either_list, s_either_pair, s_either_either, s_either_left, s_either_right, s_either_thing, s_either_fault, s_either_worth, s_either_table, s_left_num, s_left_truth, s_left_open, s_left_list, s_left_pair, s_left_either, s_left_left, s_left_right, s_left_thing, s_left_fault, s_left_worth, s_left_table, s_right_num, s_right_truth, s_right_open, s_right_list, s_right_pair, s_right_either, s_right_left, s_right_right, s_right_thing, s_right_fault, s_right_worth, s_right_table, s_thing_num, s_thing_truth, s_thing_open, s_thing_list, s_thing_pair, s_thing_either, s_thing_left, s_thing_right, s_thing_thing, s_thing_fault, s_thing_worth, s_thing_table, s_fault_num, s_fault_truth, s_fault_open, s_fault_list, s_fault_pair, s_fault_either, s_fault_left, s_fault_right, s_fault_thing, s_fault_fault, s_fault_worth, s_fault_table, s_worth_num, s_worth_truth, s_worth_open, s_worth_list, s_worth_pair, s_worth_either, s_worth_left, s_worth_right, s_worth_thing, s_worth_fault, s_worth_worth, s_worth_table, s_table_num, s_table_truth, s_table_open, s_table_list, s_table_pair, s_table_either, s_table_left, s_table_right, s_table_thing, s_table_fault, s_table_worth, s_table_table]) <;> exact ⟨z4000 (by simp), q⟩
end LAW
set_option Elab.async false
set_option linter.all false
set_option maxRecDepth 100000
set_option maxHeartbeats 4000000
/-! TLC9: the law's own mapping. -/
namespace LAW
open PySem PySem.Spec PyProof.Rows L2 TL
theorem isB_t : isB "tuple" "tuple" = true := by decide
theorem isB_i : isB "int" "tuple" = false := by decide
theorem isB_b : isB "bool" "tuple" = false := by decide
/-- the maps as a dict -/
def mrows (rows : Rows) : List (Key × T) := rows.map fun r => (.inr r.1, .tup [.str (Str.ofString "table"), .tup (rowsT r.1 0 r.2)])
theorem pairs_maps : ∀ rows : Rows, pairsT (rows.map mapT) = some (rows.map fun r => (T.str r.1, T.tup [.str (Str.ofString "table"), .tup (rowsT r.1 0 r.2)]))
  | [] => rfl
  | r :: rows => by
    show (pairsT (rows.map mapT)).map _ = _
    rw [pairs_maps rows]; rfl
theorem keys_maps : ∀ rows : Rows, keysOf (rows.map fun r => (T.str r.1, T.tup [.str (Str.ofString "table"), .tup (rowsT r.1 0 r.2)])) = some (mrows rows)
  | [] => rfl
  | r :: rows => by
    show ((keyT (T.str r.1)).bind fun k => (keysOf (rows.map fun r => (T.str r.1, T.tup [.str (Str.ofString "table"), .tup (rowsT r.1 0 r.2)]))).map fun ks => (k, _) :: ks) = _
    rw [keys_maps rows]; rfl
theorem valK_app (a b : List (Key × T)) (k : Key) (h : valT a k = none) : valT (a ++ b) k = valT b k := by
  unfold valT at h ⊢
  rw [List.find?_append]
  cases e : a.find? (fun kv => decide (kv.1 = k)) with
  | none => rfl
  | some v => rw [e] at h; cases h
theorem merge_nodup : ∀ (kvs acc : List (Key × T)), (kvs.map (·.1)).Nodup → (∀ p ∈ kvs, valT acc p.1 = none) → mergeT acc kvs = acc ++ kvs
  | [], acc, _, _ => by rw [List.append_nil]; rfl
  | p :: kvs, acc, nd, h => by
    rw [List.map_cons, List.nodup_cons] at nd
    show mergeT (putT acc p.1 p.2) kvs = _
    rw [putT_new _ (h p List.mem_cons_self), merge_nodup kvs _ nd.2 fun q hq => ?_]
    · rw [List.append_assoc]; rfl
    · rw [valK_app _ _ _ (h q (List.mem_cons_of_mem _ hq)), valT_neg (fun e => nd.1 (by rw [show p.1 = q.1 from e]; exact List.mem_map.mpr ⟨q, hq, rfl⟩))]; rfl
theorem val_maps : ∀ (rows : Rows) (x : Str) (r : Str × List (Option Nat)), rows.find? (fun r => decide (r.1 = x)) = some r → valT (mrows rows) (.inr x) = some (.tup [.str (Str.ofString "table"), .tup (rowsT r.1 0 r.2)])
  | [], x, r, h => by simp at h
  | p :: rows, x, r, h => by
    by_cases e : p.1 = x
    · rw [List.find?_cons, decide_eq_true e] at h
      have : p = r := by simpa using h
      subst this
      exact valT_pos (congrArg Sum.inr e)
    · rw [List.find?_cons, decide_eq_false e] at h
      show valT ((Sum.inr p.1, _) :: mrows rows) _ = _
      rw [valT_neg (by intro z; injection z with z; exact e z)]
      exact val_maps rows x r h
theorem rows_at (x : Str) : ∀ (l : List (Option Nat)) (k j : Nat) (o : Option Nat), l[j]? = some o → (rowsT x k l)[j]? = some (.tup [.tup [.str (Str.ofString "thing"), .str x, .int ((k + j : Nat) : Int)], toldT x o])
  | [], _, _, _, e => by simp at e
  | p :: r, k, 0, o, e => by
    have : p = o := by simpa using e
    subst this
    rfl
  | p :: r, k, j + 1, o, e => by
    rw [rowsT, List.getElem?_cons_succ, rows_at x r (k + 1) j o (by simpa using e), show k + 1 + j = k + (j + 1) by omega]
theorem opt_pur : ∀ o : Option W, (optT o).pur = true
  | none => by rw [optT, pur_non]
  | some w => w_pur w
theorem opts_pur (f : Str → Nat → Option Nat) : ∀ ws : List W, T.purs (ws.map fun w => optT (mapW f w)) = true
  | [] => purs_nil
  | w :: ws => by rw [List.map_cons, purs_cons, opt_pur, opts_pur f ws]; rfl
theorem eq_non : ∀ o : Option W, eqT (optT o) .non = o.isNone
  | none => by rw [optT, eqT_nn]; rfl
  | some w => by
    cases w <;> simp only [optT, w_num, w_tru, w_thing, w_lst, w_left, w_right, w_pair] <;> (unfold TL.eqT; rfl)
theorem any_non (f : Str → Nat → Option Nat) : ∀ ws : List W, ((ws.map fun w => optT (mapW f w)).any fun z => eqT z .non) = (mapWs f ws).isNone
  | [] => by unfold mapWs; rfl
  | w :: ws => by
    rw [List.map_cons, List.any_cons, eq_non, any_non f ws]
    conv => rhs; unfold mapWs
    cases mapW f w with
    | none => rfl
    | some x => cases mapWs f ws <;> rfl
theorem opts_some (f : Str → Nat → Option Nat) : ∀ (ws vs : List W), mapWs f ws = some vs → (ws.map fun w => optT (mapW f w)) = vs.map W.t
  | [], vs, h => by unfold mapWs at h; cases h; rfl
  | w :: ws, vs, h => by
    unfold mapWs at h
    cases e : mapW f w with
    | none => rw [e] at h; cases h
    | some x =>
      rw [e] at h
      cases e2 : mapWs f ws with
      | none => rw [e2] at h; cases h
      | some xs =>
        rw [e2] at h
        cases h
        rw [List.map_cons, e, opts_some f ws xs e2]; rfl
theorem vc_lmapped (n : Nat) (ts : List T) (S : Sto) (Q : T → Sto → Prop) (hl : ts.length = 2) (h : spLmapped (n + 1) ts S Q) : t_Lmapped n (endT Q) (startT N_Lmapped.length ts) S := by
  obtain ⟨rows, kd, wo, rfl, ok, hh, hhas, q⟩ := h
  rw [show startT N_Lmapped.length [mapsT rows, W.t wo] = [some (mapsT rows), some (W.t wo), none, none, none, none] from rfl]
  unfold t_Lmapped
  refine seq_cut fun v1 hv1 => ?_
  -- a thing with parts
  have parts : ∀ (tag : Str) (more : List T) (ws : List W), W.t wo = .tup (.str tag :: more) → (tag == Str.ofString "thing") = false → ((tag == Str.ofString "list") = true → more = [.tup (ws.map W.t)]) → ((tag == Str.ofString "list") = false → more = ws.map W.t) →
      (∀ w ∈ ws, ∃ kd : Kd, kd.h < n ∧ Has (siz rows) 12 kd w) → ws.length ≤ 12 →
      (mapWs (tell rows) ws = none → mapW (tell rows) wo = none) →
      (∀ vs, mapWs (tell rows) ws = some vs → ∃ v, mapW (tell rows) wo = some v ∧ W.t v = (if (tag == Str.ofString "list") = true then .tup [.str (Str.ofString "list"), .tup (vs.map W.t)] else .tup (.str tag :: vs.map W.t))) →
      v1 (endT Q) [some (mapsT rows), some (.tup (.str tag :: more)), none, none, none, none] S := by
    intro tag more ws ht h1 hm1 hm2 hws h12 hr1 hr2
    rw [hv1]
    refine seq_cut fun v2 hv2 => ?_
    try simp only [tsNx, tsSeq, tsBrk, tsCt, tsDrop, tsRet, tsRetN, tsIf, tsAsg, tgN, tgsNil, tgsCons, tgTup, tgSub, tsFor, tsWhile, tiSeq, tiRng1, tiRng2, tiZip, tb, tv, tc, tac, tan, ttup, tlst, tq, tand, tor, tnot, tife, tandV, torV, tnotV, tneg, tsl, tno, tpt, tcall, tbi, tml, tml0, tmj, tisi, tlRev, tlRng1, tdisp, tps, tlc, ttYes, bt1, btN, setsT, wipeT, endT, List.getElem?_cons_zero, List.getElem?_cons_succ, List.set_cons_zero, List.set_cons_succ]
    try simp only [h1, ev_t0, ev_t1, ev_t2, ev_eqs, ev_eqi, ev_intb, ev_inti, ev_add, ev_sub, ev_lt, ev_gt, ev_sl1, ev_in2, ev_lent, ev_isn, Bool.or_false, Bool.or_true, Bool.false_or, Bool.true_or, eqG_f, eqG_t, kq, Bool.not_true, Bool.not_false, if_true, if_false, ite_true, ite_false, reduceIte, s_num_num, s_num_truth, s_num_open, s_num_list, s_num_pair, s_num_either, s_num_left, s_num_right, s_num_thing, s_num_fault, s_num_worth, s_num_table, s_truth_num, s_truth_truth, s_truth_open, s_truth_list, s_truth_pair, s_truth_either, s_truth_left, s_truth_right, s_truth_thing, s_truth_fault, s_truth_worth, s_truth_table, s_open_num, s_open_truth, s_open_open, s_open_list, s_open_pair, s_open_either, s_open_left, s_open_right, s_open_thing, s_open_fault, s_open_worth, s_open_table, s_list_num, s_list_truth, s_list_open, s_list_list, s_list_pair, s_list_either, s_list_left, s_list_right, s_list_thing, s_list_fault, s_list_worth, s_list_table, s_pair_num, s_pair_truth, s_pair_open, s_pair_list, s_pair_pair, s_pair_either, s_pair_left, s_pair_right, s_pair_thing, s_pair_fault, s_pair_worth, s_pair_table, s_either_num, s_either_truth, s_either_open, s_either_list, s_either_pair, s_either_either, s_either_left, s_either_right, s_either_thing, s_either_fault, s_either_worth, s_either_table, s_left_num, s_left_truth, s_left_open, s_left_list, s_left_pair, s_left_either, s_left_left, s_left_right, s_left_thing, s_left_fault, s_left_worth, s_left_table, s_right_num, s_right_truth, s_right_open, s_right_list, s_right_pair, s_right_either, s_right_left, s_right_right, s_right_thing, s_right_fault, s_right_worth, s_right_table, s_thing_num, s_thing_truth, s_thing_open, s_thing_list, s_thing_pair, s_thing_either, s_thing_left, s_thing_right, s_thing_thing, s_thing_fault, s_thing_worth, s_thing_table, s_fault_num, s_fault_truth, s_fault_open, s_fault_list, s_fault_pair, s_fault_either, s_fault_left, s_fault_right, s_fault_thing, s_fault_fault, s_fault_worth, s_fault_table, s_worth_num, s_worth_truth, s_worth_open, s_worth_list, s_worth_pair, s_worth_either, s_worth_left, s_worth_right, s_worth_thing, s_worth_fault, s_worth_worth, s_worth_table, s_table_num, s_table_truth, s_table_open, s_table_list, s_table_pair, s_table_either, s_table_left, s_table_right, s_table_thing, s_table_fault, s_table_worth, s_table_table]
    rw [hv2]
    refine seq_cut fun v3 hv3 => ?_
    -- behind the parts
    have rest : v3 (endT Q) [some (mapsT rows), some (.tup (.str tag :: more)), some (.tup (ws.map W.t)), none, none, none] S := by
      rw [hv3]
      refine seq_cut fun v4 hv4 => ?_
      try simp only [tsNx, tsSeq, tsBrk, tsCt, tsDrop, tsRet, tsRetN, tsIf, tsAsg, tgN, tgsNil, tgsCons, tgTup, tgSub, tsFor, tsWhile, tiSeq, tiRng1, tiRng2, tiZip, tb, tv, tc, tac, tan, ttup, tlst, tq, tand, tor, tnot, tife, tandV, torV, tnotV, tneg, tsl, tno, tpt, tcall, tbi, tml, tml0, tmj, tisi, tlRev, tlRng1, tdisp, tps, tlc, ttYes, bt1, btN, setsT, wipeT, endT, List.getElem?_cons_zero, List.getElem?_cons_succ, List.set_cons_zero, List.set_cons_succ]
      intro L hL
      refine ⟨fun i acc S' => i ≤ ws.length ∧ acc = (ws.take i).map (fun w => optT (mapW (tell rows) w)) ∧ S' L = some (.lst acc) ∧ Ex S S', fun S0 u => ⟨Nat.zero_le _, by simp, u.at_, fun a o e => u.get (nn hL e) e⟩, ?_⟩
      rintro i acc S' ⟨hi, rfl, hS, hEx⟩
      refine ⟨hS, trivial, ?_⟩
      cases hx : (ws.map W.t)[i]? with
      | some y =>
        rw [List.getElem?_map] at hx
        cases hw : ws[i]? with
        | none => rw [hw] at hx; cases hx
        | some w =>
          rw [hw] at hx
          have hx : W.t w = y := by simpa using hx
          subst hx
          obtain ⟨kd', k1, k2⟩ := hws w (List.mem_of_getElem? hw)
          try simp only [tsNx, tsSeq, tsBrk, tsCt, tsDrop, tsRet, tsRetN, tsIf, tsAsg, tgN, tgsNil, tgsCons, tgTup, tgSub, tsFor, tsWhile, tiSeq, tiRng1, tiRng2, tiZip, tb, tv, tc, tac, tan, ttup, tlst, tq, tand, tor, tnot, tife, tandV, torV, tnotV, tneg, tsl, tno, tpt, tcall, tbi, tml, tml0, tmj, tisi, tlRev, tlRng1, tdisp, tps, tlc, ttYes, bt1, btN, setsT, wipeT, endT, List.getElem?_cons_zero, List.getElem?_cons_succ, List.set_cons_zero, List.set_cons_succ]
          refine ⟨rfl, rows, kd', w, rfl, ok, k1, k2, fun S2 x2 => ⟨x2 _ _ hS, by rw [List.length_map, List.length_take]; exact Nat.lt_of_lt_of_le (show min i ws.length < 100 by omega) (by decide), fun S5 u => ?_⟩⟩
          obtain ⟨hil, hwi⟩ := List.getElem?_eq_some_iff.mp hw
          refine ⟨hil, ?_, u.at_, fun a o e => ?_⟩
          · rw [List.take_succ_eq_append_getElem hil, List.map_append, hwi]; rfl
          · exact u.get (nn hL e) (x2 _ _ (hEx a o e))
      | none =>
        have hlen := List.getElem?_eq_none_iff.mp hx
        rw [List.length_map] at hlen
        rw [show ws.take i = ws from List.take_of_length_le hlen] at hS ⊢
        simp only []
        rw [hv4]
        refine seq_cut fun v5 hv5 => ?_
        try simp only [tsNx, tsSeq, tsBrk, tsCt, tsDrop, tsRet, tsRetN, tsIf, tsAsg, tgN, tgsNil, tgsCons, tgTup, tgSub, tsFor, tsWhile, tiSeq, tiRng1, tiRng2, tiZip, tb, tv, tc, tac, tan, ttup, tlst, tq, tand, tor, tnot, tife, tandV, torV, tnotV, tneg, tsl, tno, tpt, tcall, tbi, tml, tml0, tmj, tisi, tlRev, tlRng1, tdisp, tps, tlc, ttYes, bt1, btN, setsT, wipeT, endT, List.getElem?_cons_zero, List.getElem?_cons_succ, List.set_cons_zero, List.set_cons_succ]
        simp only [oInG, lstAt_of hS]
        refine ⟨pur_non, opts_pur _ _, by rw [depth_non]; omega, ?_⟩
        rw [any_non]
        cases hm : mapWs (tell rows) ws with
        | none =>
          try simp only [Option.isNone_none, ev_t0, ev_t1, ev_t2, ev_eqs, ev_eqi, ev_intb, ev_inti, ev_add, ev_sub, ev_lt, ev_gt, ev_sl1, ev_in2, ev_lent, ev_isn, Bool.or_false, Bool.or_true, Bool.false_or, Bool.true_or, eqG_f, eqG_t, kq, Bool.not_true, Bool.not_false, if_true, if_false, ite_true, ite_false, reduceIte, s_num_num, s_num_truth, s_num_open, s_num_list, s_num_pair, s_num_either, s_num_left, s_num_right, s_num_thing, s_num_fault, s_num_worth, s_num_table, s_truth_num, s_truth_truth, s_truth_open, s_truth_list, s_truth_pair, s_truth_either, s_truth_left, s_truth_right, s_truth_thing, s_truth_fault, s_truth_worth, s_truth_table, s_open_num, s_open_truth, s_open_open, s_open_list, s_open_pair, s_open_either, s_open_left, s_open_right, s_open_thing, s_open_fault, s_open_worth, s_open_table, s_list_num, s_list_truth, s_list_open, s_list_list, s_list_pair, s_list_either, s_list_left, s_list_right, s_list_thing, s_list_fault, s_list_worth, s_list_table, s_pair_num, s_pair_truth, s_pair_open, s_pair_list, s_pair_pair, s_pair_either, s_pair_left, s_pair_right, s_pair_thing, s_pair_fault, s_pair_worth, s_pair_table, s_either_num, s_either_truth, s_either_open, s_either_list, s_either_pair, s_either_either, s_either_left, s_either_right, s_either_thing, s_either_fault, s_either_worth, s_either_table, s_left_num, s_left_truth, s_left_open, s_left_list, s_left_pair, s_left_either, s_left_left, s_left_right, s_left_thing, s_left_fault, s_left_worth, s_left_table, s_right_num, s_right_truth, s_right_open, s_right_list, s_right_pair, s_right_either, s_right_left, s_right_right, s_right_thing, s_right_fault, s_right_worth, s_right_table, s_thing_num, s_thing_truth, s_thing_open, s_thing_list, s_thing_pair, s_thing_either, s_thing_left, s_thing_right, s_thing_thing, s_thing_fault, s_thing_worth, s_thing_table, s_fault_num, s_fault_truth, s_fault_open, s_fault_list, s_fault_pair, s_fault_either, s_fault_left, s_fault_right, s_fault_thing, s_fault_fault, s_fault_worth, s_fault_table, s_worth_num, s_worth_truth, s_worth_open, s_worth_list, s_worth_pair, s_worth_either, s_worth_left, s_worth_right, s_worth_thing, s_worth_fault, s_worth_worth, s_worth_table, s_table_num, s_table_truth, s_table_open, s_table_list, s_table_pair, s_table_either, s_table_left, s_table_right, s_table_thing, s_table_fault, s_table_worth, s_table_table]
          have := q S' hEx
          rw [hr1 hm] at this
          exact this
        | some vs =>
          try simp only [Option.isNone_some, ev_t0, ev_t1, ev_t2, ev_eqs, ev_eqi, ev_intb, ev_inti, ev_add, ev_sub, ev_lt, ev_gt, ev_sl1, ev_in2, ev_lent, ev_isn, Bool.or_false, Bool.or_true, Bool.false_or, Bool.true_or, eqG_f, eqG_t, kq, Bool.not_true, Bool.not_false, if_true, if_false, ite_true, ite_false, reduceIte, s_num_num, s_num_truth, s_num_open, s_num_list, s_num_pair, s_num_either, s_num_left, s_num_right, s_num_thing, s_num_fault, s_num_worth, s_num_table, s_truth_num, s_truth_truth, s_truth_open, s_truth_list, s_truth_pair, s_truth_either, s_truth_left, s_truth_right, s_truth_thing, s_truth_fault, s_truth_worth, s_truth_table, s_open_num, s_open_truth, s_open_open, s_open_list, s_open_pair, s_open_either, s_open_left, s_open_right, s_open_thing, s_open_fault, s_open_worth, s_open_table, s_list_num, s_list_truth, s_list_open, s_list_list, s_list_pair, s_list_either, s_list_left, s_list_right, s_list_thing, s_list_fault, s_list_worth, s_list_table, s_pair_num, s_pair_truth, s_pair_open, s_pair_list, s_pair_pair, s_pair_either, s_pair_left, s_pair_right, s_pair_thing, s_pair_fault, s_pair_worth, s_pair_table, s_either_num, s_either_truth, s_either_open, s_either_list, s_either_pair, s_either_either, s_either_left, s_either_right, s_either_thing, s_either_fault, s_either_worth, s_either_table, s_left_num, s_left_truth, s_left_open, s_left_list, s_left_pair, s_left_either, s_left_left, s_left_right, s_left_thing, s_left_fault, s_left_worth, s_left_table, s_right_num, s_right_truth, s_right_open, s_right_list, s_right_pair, s_right_either, s_right_left, s_right_right, s_right_thing, s_right_fault, s_right_worth, s_right_table, s_thing_num, s_thing_truth, s_thing_open, s_thing_list, s_thing_pair, s_thing_either, s_thing_left, s_thing_right, s_thing_thing, s_thing_fault, s_thing_worth, s_thing_table, s_fault_num, s_fault_truth, s_fault_open, s_fault_list, s_fault_pair, s_fault_either, s_fault_left, s_fault_right, s_fault_thing, s_fault_fault, s_fault_worth, s_fault_table, s_worth_num, s_worth_truth, s_worth_open, s_worth_list, s_worth_pair, s_worth_either, s_worth_left, s_worth_right, s_worth_thing, s_worth_fault, s_worth_worth, s_worth_table, s_table_num, s_table_truth, s_table_open, s_table_list, s_table_pair, s_table_either, s_table_left, s_table_right, s_table_thing, s_table_fault, s_table_worth, s_table_table]
          rw [hv5]
          rw [opts_some _ ws vs hm] at hS
          obtain ⟨v, e1, e2⟩ := hr2 vs hm
          have := q S' hEx
          rw [e1] at this
          simp only [optT] at this
          rw [e2] at this
          have hvl : vs.length = ws.length := by
            have := congrArg List.length (opts_some _ ws vs hm)
            rw [List.length_map, List.length_map] at this
            exact this.symm
          try simp only [tsNx, tsSeq, tsBrk, tsCt, tsDrop, tsRet, tsRetN, tsIf, tsAsg, tgN, tgsNil, tgsCons, tgTup, tgSub, tsFor, tsWhile, tiSeq, tiRng1, tiRng2, tiZip, tb, tv, tc, tac, tan, ttup, tlst, tq, tand, tor, tnot, tife, tandV, torV, tnotV, tneg, tsl, tno, tpt, tcall, tbi, tml, tml0, tmj, tisi, tlRev, tlRng1, tdisp, tps, tlc, ttYes, bt1, btN, setsT, wipeT, endT, List.getElem?_cons_zero, List.getElem?_cons_succ, List.set_cons_zero, List.set_cons_succ]
          try simp only [ev_t0, ev_t1, ev_t2, ev_eqs, ev_eqi, ev_intb, ev_inti, ev_add, ev_sub, ev_lt, ev_gt, ev_sl1, ev_in2, ev_lent, ev_isn, Bool.or_false, Bool.or_true, Bool.false_or, Bool.true_or, eqG_f, eqG_t, kq, Bool.not_true, Bool.not_false, if_true, if_false, ite_true, ite_false, reduceIte, s_num_num, s_num_truth, s_num_open, s_num_list, s_num_pair, s_num_either, s_num_left, s_num_right, s_num_thing, s_num_fault, s_num_worth, s_num_table, s_truth_num, s_truth_truth, s_truth_open, s_truth_list, s_truth_pair, s_truth_either, s_truth_left, s_truth_right, s_truth_thing, s_truth_fault, s_truth_worth, s_truth_table, s_open_num, s_open_truth, s_open_open, s_open_list, s_open_pair, s_open_either, s_open_left, s_open_right, s_open_thing, s_open_fault, s_open_worth, s_open_table, s_list_num, s_list_truth, s_list_open, s_list_list, s_list_pair, s_list_either, s_list_left, s_list_right, s_list_thing, s_list_fault, s_list_worth, s_list_table, s_pair_num, s_pair_truth, s_pair_open, s_pair_list, s_pair_pair, s_pair_either, s_pair_left, s_pair_right, s_pair_thing, s_pair_fault, s_pair_worth, s_pair_table, s_either_num, s_either_truth, s_either_open, s_either_list, s_either_pair, s_either_either, s_either_left, s_either_right, s_either_thing, s_either_fault, s_either_worth, s_either_table, s_left_num, s_left_truth, s_left_open, s_left_list, s_left_pair, s_left_either, s_left_left, s_left_right, s_left_thing, s_left_fault, s_left_worth, s_left_table, s_right_num, s_right_truth, s_right_open, s_right_list, s_right_pair, s_right_either, s_right_left, s_right_right, s_right_thing, s_right_fault, s_right_worth, s_right_table, s_thing_num, s_thing_truth, s_thing_open, s_thing_list, s_thing_pair, s_thing_either, s_thing_left, s_thing_right, s_thing_thing, s_thing_fault, s_thing_worth, s_thing_table, s_fault_num, s_fault_truth, s_fault_open, s_fault_list, s_fault_pair, s_fault_either, s_fault_left, s_fault_right, s_fault_thing, s_fault_fault, s_fault_worth, s_fault_table, s_worth_num, s_worth_truth, s_worth_open, s_worth_list, s_worth_pair, s_worth_either, s_worth_left, s_worth_right, s_worth_thing, s_worth_fault, s_worth_worth, s_worth_table, s_table_num, s_table_truth, s_table_open, s_table_list, s_table_pair, s_table_either, s_table_left, s_table_right, s_table_thing, s_table_fault, s_table_worth, s_table_table]
          cases e3 : (tag == Str.ofString "list") with
          | true =>
            rw [e3] at this
            simp only [if_true] at this
            simp only []
            refine st_tupl hS ?_
            exact ⟨z4000 (by simp), this⟩
          | false =>
            rw [e3] at this
            simp only [Bool.false_eq_true, if_false] at this
            simp only []
            refine ⟨z4000 (by simp), ?_⟩
            refine st_tupl hS ?_
            exact st_addt (z4000 (by rw [List.length_map]; simp; omega)) this
    try simp only [tsNx, tsSeq, tsBrk, tsCt, tsDrop, tsRet, tsRetN, tsIf, tsAsg, tgN, tgsNil, tgsCons, tgTup, tgSub, tsFor, tsWhile, tiSeq, tiRng1, tiRng2, tiZip, tb, tv, tc, tac, tan, ttup, tlst, tq, tand, tor, tnot, tife, tandV, torV, tnotV, tneg, tsl, tno, tpt, tcall, tbi, tml, tml0, tmj, tisi, tlRev, tlRng1, tdisp, tps, tlc, ttYes, bt1, btN, setsT, wipeT, endT, List.getElem?_cons_zero, List.getElem?_cons_succ, List.set_cons_zero, List.set_cons_succ]
    try simp only [ev_t0, ev_t1, ev_t2, ev_eqs, ev_eqi, ev_intb, ev_inti, ev_add, ev_sub, ev_lt, ev_gt, ev_sl1, ev_in2, ev_lent, ev_isn, Bool.or_false, Bool.or_true, Bool.false_or, Bool.true_or, eqG_f, eqG_t, kq, Bool.not_true, Bool.not_false, if_true, if_false, ite_true, ite_false, reduceIte, s_num_num, s_num_truth, s_num_open, s_num_list, s_num_pair, s_num_either, s_num_left, s_num_right, s_num_thing, s_num_fault, s_num_worth, s_num_table, s_truth_num, s_truth_truth, s_truth_open, s_truth_list, s_truth_pair, s_truth_either, s_truth_left, s_truth_right, s_truth_thing, s_truth_fault, s_truth_worth, s_truth_table, s_open_num, s_open_truth, s_open_open, s_open_list, s_open_pair, s_open_either, s_open_left, s_open_right, s_open_thing, s_open_fault, s_open_worth, s_open_table, s_list_num, s_list_truth, s_list_open, s_list_list, s_list_pair, s_list_either, s_list_left, s_list_right, s_list_thing, s_list_fault, s_list_worth, s_list_table, s_pair_num, s_pair_truth, s_pair_open, s_pair_list, s_pair_pair, s_pair_either, s_pair_left, s_pair_right, s_pair_thing, s_pair_fault, s_pair_worth, s_pair_table, s_either_num, s_either_truth, s_either_open, s_either_list, s_either_pair, s_either_either, s_either_left, s_either_right, s_either_thing, s_either_fault, s_either_worth, s_either_table, s_left_num, s_left_truth, s_left_open, s_left_list, s_left_pair, s_left_either, s_left_left, s_left_right, s_left_thing, s_left_fault, s_left_worth, s_left_table, s_right_num, s_right_truth, s_right_open, s_right_list, s_right_pair, s_right_either, s_right_left, s_right_right, s_right_thing, s_right_fault, s_right_worth, s_right_table, s_thing_num, s_thing_truth, s_thing_open, s_thing_list, s_thing_pair, s_thing_either, s_thing_left, s_thing_right, s_thing_thing, s_thing_fault, s_thing_worth, s_thing_table, s_fault_num, s_fault_truth, s_fault_open, s_fault_list, s_fault_pair, s_fault_either, s_fault_left, s_fault_right, s_fault_thing, s_fault_fault, s_fault_worth, s_fault_table, s_worth_num, s_worth_truth, s_worth_open, s_worth_list, s_worth_pair, s_worth_either, s_worth_left, s_worth_right, s_worth_thing, s_worth_fault, s_worth_worth, s_worth_table, s_table_num, s_table_truth, s_table_open, s_table_list, s_table_pair, s_table_either, s_table_left, s_table_right, s_table_thing, s_table_fault, s_table_worth, s_table_table]
    cases e3 : (tag == Str.ofString "list") with
    | true =>
      simp only []
      rw [hm1 e3]
      try simp only [ev_t0, ev_t1, ev_t2, ev_eqs, ev_eqi, ev_intb, ev_inti, ev_add, ev_sub, ev_lt, ev_gt, ev_sl1, ev_in2, ev_lent, ev_isn, Bool.or_false, Bool.or_true, Bool.false_or, Bool.true_or, eqG_f, eqG_t, kq, Bool.not_true, Bool.not_false, if_true, if_false, ite_true, ite_false, reduceIte, s_num_num, s_num_truth, s_num_open, s_num_list, s_num_pair, s_num_either, s_num_left, s_num_right, s_num_thing, s_num_fault, s_num_worth, s_num_table, s_truth_num, s_truth_truth, s_truth_open, s_truth_list, s_truth_pair, s_truth_either, s_truth_left, s_truth_right, s_truth_thing, s_truth_fault, s_truth_worth, s_truth_table, s_open_num, s_open_truth, s_open_open, s_open_list, s_open_pair, s_open_either, s_open_left, s_open_right, s_open_thing, s_open_fault, s_open_worth, s_open_table, s_list_num, s_list_truth, s_list_open, s_list_list, s_list_pair, s_list_either, s_list_left, s_list_right, s_list_thing, s_list_fault, s_list_worth, s_list_table, s_pair_num, s_pair_truth, s_pair_open, s_pair_list, s_pair_pair, s_pair_either, s_pair_left, s_pair_right, s_pair_thing, s_pair_fault, s_pair_worth, s_pair_table, s_either_num, s_either_truth, s_either_open, s_either_list, s_either_pair, s_either_either, s_either_left, s_either_right, s_either_thing, s_either_fault, s_either_worth, s_either_table, s_left_num, s_left_truth, s_left_open, s_left_list, s_left_pair, s_left_either, s_left_left, s_left_right, s_left_thing, s_left_fault, s_left_worth, s_left_table, s_right_num, s_right_truth, s_right_open, s_right_list, s_right_pair, s_right_either, s_right_left, s_right_right, s_right_thing, s_right_fault, s_right_worth, s_right_table, s_thing_num, s_thing_truth, s_thing_open, s_thing_list, s_thing_pair, s_thing_either, s_thing_left, s_thing_right, s_thing_thing, s_thing_fault, s_thing_worth, s_thing_table, s_fault_num, s_fault_truth, s_fault_open, s_fault_list, s_fault_pair, s_fault_either, s_fault_left, s_fault_right, s_fault_thing, s_fault_fault, s_fault_worth, s_fault_table, s_worth_num, s_worth_truth, s_worth_open, s_worth_list, s_worth_pair, s_worth_either, s_worth_left, s_worth_right, s_worth_thing, s_worth_fault, s_worth_worth, s_worth_table, s_table_num, s_table_truth, s_table_open, s_table_list, s_table_pair, s_table_either, s_table_left, s_table_right, s_table_thing, s_table_fault, s_table_worth, s_table_table]
      rw [hm1 e3] at rest
      exact rest
    | false =>
      simp only []
      rw [hm2 e3]
      rw [hm2 e3] at rest
      try simp only [ev_t0, ev_t1, ev_t2, ev_eqs, ev_eqi, ev_intb, ev_inti, ev_add, ev_sub, ev_lt, ev_gt, ev_sl1, ev_in2, ev_lent, ev_isn, Bool.or_false, Bool.or_true, Bool.false_or, Bool.true_or, eqG_f, eqG_t, kq, Bool.not_true, Bool.not_false, if_true, if_false, ite_true, ite_false, reduceIte, s_num_num, s_num_truth, s_num_open, s_num_list, s_num_pair, s_num_either, s_num_left, s_num_right, s_num_thing, s_num_fault, s_num_worth, s_num_table, s_truth_num, s_truth_truth, s_truth_open, s_truth_list, s_truth_pair, s_truth_either, s_truth_left, s_truth_right, s_truth_thing, s_truth_fault, s_truth_worth, s_truth_table, s_open_num, s_open_truth, s_open_open, s_open_list, s_open_pair, s_open_either, s_open_left, s_open_right, s_open_thing, s_open_fault, s_open_worth, s_open_table, s_list_num, s_list_truth, s_list_open, s_list_list, s_list_pair, s_list_either, s_list_left, s_list_right, s_list_thing, s_list_fault, s_list_worth, s_list_table, s_pair_num, s_pair_truth, s_pair_open, s_pair_list, s_pair_pair, s_pair_either, s_pair_left, s_pair_right, s_pair_thing, s_pair_fault, s_pair_worth, s_pair_table, s_either_num, s_either_truth, s_either_open, s_either_list, s_either_pair, s_either_either, s_either_left, s_either_right, s_either_thing, s_either_fault, s_either_worth, s_either_table, s_left_num, s_left_truth, s_left_open, s_left_list, s_left_pair, s_left_either, s_left_left, s_left_right, s_left_thing, s_left_fault, s_left_worth, s_left_table, s_right_num, s_right_truth, s_right_open, s_right_list, s_right_pair, s_right_either, s_right_left, s_right_right, s_right_thing, s_right_fault, s_right_worth, s_right_table, s_thing_num, s_thing_truth, s_thing_open, s_thing_list, s_thing_pair, s_thing_either, s_thing_left, s_thing_right, s_thing_thing, s_thing_fault, s_thing_worth, s_thing_table, s_fault_num, s_fault_truth, s_fault_open, s_fault_list, s_fault_pair, s_fault_either, s_fault_left, s_fault_right, s_fault_thing, s_fault_fault, s_fault_worth, s_fault_table, s_worth_num, s_worth_truth, s_worth_open, s_worth_list, s_worth_pair, s_worth_either, s_worth_left, s_worth_right, s_worth_thing, s_worth_fault, s_worth_worth, s_worth_table, s_table_num, s_table_truth, s_table_open, s_table_list, s_table_pair, s_table_either, s_table_left, s_table_right, s_table_thing, s_table_fault, s_table_worth, s_table_table]
      exact rest
  cases wo with
  | num i =>
    try simp only [w_num, tsNx, tsSeq, tsBrk, tsCt, tsDrop, tsRet, tsRetN, tsIf, tsAsg, tgN, tgsNil, tgsCons, tgTup, tgSub, tsFor, tsWhile, tiSeq, tiRng1, tiRng2, tiZip, tb, tv, tc, tac, tan, ttup, tlst, tq, tand, tor, tnot, tife, tandV, torV, tnotV, tneg, tsl, tno, tpt, tcall, tbi, tml, tml0, tmj, tisi, tlRev, tlRng1, tdisp, tps, tlc, ttYes, bt1, btN, setsT, wipeT, endT, List.getElem?_cons_zero, List.getElem?_cons_succ, List.set_cons_zero, List.set_cons_succ]
    try simp only [tyT, isB_i, ev_t0, ev_t1, ev_t2, ev_eqs, ev_eqi, ev_intb, ev_inti, ev_add, ev_sub, ev_lt, ev_gt, ev_sl1, ev_in2, ev_lent, ev_isn, Bool.or_false, Bool.or_true, Bool.false_or, Bool.true_or, eqG_f, eqG_t, kq, Bool.not_true, Bool.not_false, if_true, if_false, ite_true, ite_false, reduceIte, s_num_num, s_num_truth, s_num_open, s_num_list, s_num_pair, s_num_either, s_num_left, s_num_right, s_num_thing, s_num_fault, s_num_worth, s_num_table, s_truth_num, s_truth_truth, s_truth_open, s_truth_list, s_truth_pair, s_truth_either, s_truth_left, s_truth_right, s_truth_thing, s_truth_fault, s_truth_worth, s_truth_table, s_open_num, s_open_truth, s_open_open, s_open_list, s_open_pair, s_open_either, s_open_left, s_open_right, s_open_thing, s_open_fault, s_open_worth, s_open_table, s_list_num, s_list_truth, s_list_open, s_list_list, s_list_pair, s_list_either, s_list_left, s_list_right, s_list_thing, s_list_fault, s_list_worth, s_list_table, s_pair_num, s_pair_truth, s_pair_open, s_pair_list, s_pair_pair, s_pair_either, s_pair_left, s_pair_right, s_pair_thing, s_pair_fault, s_pair_worth, s_pair_table, s_either_num, s_either_truth, s_either_open, s_either_list, s_either_pair, s_either_either, s_either_left, s_either_right, s_either_thing, s_either_fault, s_either_worth, s_either_table, s_left_num, s_left_truth, s_left_open, s_left_list, s_left_pair, s_left_either, s_left_left, s_left_right, s_left_thing, s_left_fault, s_left_worth, s_left_table, s_right_num, s_right_truth, s_right_open, s_right_list, s_right_pair, s_right_either, s_right_left, s_right_right, s_right_thing, s_right_fault, s_right_worth, s_right_table, s_thing_num, s_thing_truth, s_thing_open, s_thing_list, s_thing_pair, s_thing_either, s_thing_left, s_thing_right, s_thing_thing, s_thing_fault, s_thing_worth, s_thing_table, s_fault_num, s_fault_truth, s_fault_open, s_fault_list, s_fault_pair, s_fault_either, s_fault_left, s_fault_right, s_fault_thing, s_fault_fault, s_fault_worth, s_fault_table, s_worth_num, s_worth_truth, s_worth_open, s_worth_list, s_worth_pair, s_worth_either, s_worth_left, s_worth_right, s_worth_thing, s_worth_fault, s_worth_worth, s_worth_table, s_table_num, s_table_truth, s_table_open, s_table_list, s_table_pair, s_table_either, s_table_left, s_table_right, s_table_thing, s_table_fault, s_table_worth, s_table_table]
    have := q S (Ex.refl S)
    rw [m_num, optT, w_num] at this
    exact this
  | tru i =>
    try simp only [w_tru, tsNx, tsSeq, tsBrk, tsCt, tsDrop, tsRet, tsRetN, tsIf, tsAsg, tgN, tgsNil, tgsCons, tgTup, tgSub, tsFor, tsWhile, tiSeq, tiRng1, tiRng2, tiZip, tb, tv, tc, tac, tan, ttup, tlst, tq, tand, tor, tnot, tife, tandV, torV, tnotV, tneg, tsl, tno, tpt, tcall, tbi, tml, tml0, tmj, tisi, tlRev, tlRng1, tdisp, tps, tlc, ttYes, bt1, btN, setsT, wipeT, endT, List.getElem?_cons_zero, List.getElem?_cons_succ, List.set_cons_zero, List.set_cons_succ]
    try simp only [tyT, isB_b, ev_t0, ev_t1, ev_t2, ev_eqs, ev_eqi, ev_intb, ev_inti, ev_add, ev_sub, ev_lt, ev_gt, ev_sl1, ev_in2, ev_lent, ev_isn, Bool.or_false, Bool.or_true, Bool.false_or, Bool.true_or, eqG_f, eqG_t, kq, Bool.not_true, Bool.not_false, if_true, if_false, ite_true, ite_false, reduceIte, s_num_num, s_num_truth, s_num_open, s_num_list, s_num_pair, s_num_either, s_num_left, s_num_right, s_num_thing, s_num_fault, s_num_worth, s_num_table, s_truth_num, s_truth_truth, s_truth_open, s_truth_list, s_truth_pair, s_truth_either, s_truth_left, s_truth_right, s_truth_thing, s_truth_fault, s_truth_worth, s_truth_table, s_open_num, s_open_truth, s_open_open, s_open_list, s_open_pair, s_open_either, s_open_left, s_open_right, s_open_thing, s_open_fault, s_open_worth, s_open_table, s_list_num, s_list_truth, s_list_open, s_list_list, s_list_pair, s_list_either, s_list_left, s_list_right, s_list_thing, s_list_fault, s_list_worth, s_list_table, s_pair_num, s_pair_truth, s_pair_open, s_pair_list, s_pair_pair, s_pair_either, s_pair_left, s_pair_right, s_pair_thing, s_pair_fault, s_pair_worth, s_pair_table, s_either_num, s_either_truth, s_either_open, s_either_list, s_either_pair, s_either_either, s_either_left, s_either_right, s_either_thing, s_either_fault, s_either_worth, s_either_table, s_left_num, s_left_truth, s_left_open, s_left_list, s_left_pair, s_left_either, s_left_left, s_left_right, s_left_thing, s_left_fault, s_left_worth, s_left_table, s_right_num, s_right_truth, s_right_open, s_right_list, s_right_pair, s_right_either, s_right_left, s_right_right, s_right_thing, s_right_fault, s_right_worth, s_right_table, s_thing_num, s_thing_truth, s_thing_open, s_thing_list, s_thing_pair, s_thing_either, s_thing_left, s_thing_right, s_thing_thing, s_thing_fault, s_thing_worth, s_thing_table, s_fault_num, s_fault_truth, s_fault_open, s_fault_list, s_fault_pair, s_fault_either, s_fault_left, s_fault_right, s_fault_thing, s_fault_fault, s_fault_worth, s_fault_table, s_worth_num, s_worth_truth, s_worth_open, s_worth_list, s_worth_pair, s_worth_either, s_worth_left, s_worth_right, s_worth_thing, s_worth_fault, s_worth_worth, s_worth_table, s_table_num, s_table_truth, s_table_open, s_table_list, s_table_pair, s_table_either, s_table_left, s_table_right, s_table_thing, s_table_fault, s_table_worth, s_table_table]
    have := q S (Ex.refl S)
    rw [m_tru, optT, w_tru] at this
    exact this
  | thing x k =>
    cases kd with
    | opn y =>
      obtain ⟨rfl, hk⟩ := hhas
      try simp only [w_thing, tsNx, tsSeq, tsBrk, tsCt, tsDrop, tsRet, tsRetN, tsIf, tsAsg, tgN, tgsNil, tgsCons, tgTup, tgSub, tsFor, tsWhile, tiSeq, tiRng1, tiRng2, tiZip, tb, tv, tc, tac, tan, ttup, tlst, tq, tand, tor, tnot, tife, tandV, torV, tnotV, tneg, tsl, tno, tpt, tcall, tbi, tml, tml0, tmj, tisi, tlRev, tlRng1, tdisp, tps, tlc, ttYes, bt1, btN, setsT, wipeT, endT, List.getElem?_cons_zero, List.getElem?_cons_succ, List.set_cons_zero, List.set_cons_succ]
      try simp only [tyT, isB_t, ev_t0, ev_t1, ev_t2, ev_eqs, ev_eqi, ev_intb, ev_inti, ev_add, ev_sub, ev_lt, ev_gt, ev_sl1, ev_in2, ev_lent, ev_isn, Bool.or_false, Bool.or_true, Bool.false_or, Bool.true_or, eqG_f, eqG_t, kq, Bool.not_true, Bool.not_false, if_true, if_false, ite_true, ite_false, reduceIte, s_num_num, s_num_truth, s_num_open, s_num_list, s_num_pair, s_num_either, s_num_left, s_num_right, s_num_thing, s_num_fault, s_num_worth, s_num_table, s_truth_num, s_truth_truth, s_truth_open, s_truth_list, s_truth_pair, s_truth_either, s_truth_left, s_truth_right, s_truth_thing, s_truth_fault, s_truth_worth, s_truth_table, s_open_num, s_open_truth, s_open_open, s_open_list, s_open_pair, s_open_either, s_open_left, s_open_right, s_open_thing, s_open_fault, s_open_worth, s_open_table, s_list_num, s_list_truth, s_list_open, s_list_list, s_list_pair, s_list_either, s_list_left, s_list_right, s_list_thing, s_list_fault, s_list_worth, s_list_table, s_pair_num, s_pair_truth, s_pair_open, s_pair_list, s_pair_pair, s_pair_either, s_pair_left, s_pair_right, s_pair_thing, s_pair_fault, s_pair_worth, s_pair_table, s_either_num, s_either_truth, s_either_open, s_either_list, s_either_pair, s_either_either, s_either_left, s_either_right, s_either_thing, s_either_fault, s_either_worth, s_either_table, s_left_num, s_left_truth, s_left_open, s_left_list, s_left_pair, s_left_either, s_left_left, s_left_right, s_left_thing, s_left_fault, s_left_worth, s_left_table, s_right_num, s_right_truth, s_right_open, s_right_list, s_right_pair, s_right_either, s_right_left, s_right_right, s_right_thing, s_right_fault, s_right_worth, s_right_table, s_thing_num, s_thing_truth, s_thing_open, s_thing_list, s_thing_pair, s_thing_either, s_thing_left, s_thing_right, s_thing_thing, s_thing_fault, s_thing_worth, s_thing_table, s_fault_num, s_fault_truth, s_fault_open, s_fault_list, s_fault_pair, s_fault_either, s_fault_left, s_fault_right, s_fault_thing, s_fault_fault, s_fault_worth, s_fault_table, s_worth_num, s_worth_truth, s_worth_open, s_worth_list, s_worth_pair, s_worth_either, s_worth_left, s_worth_right, s_worth_thing, s_worth_fault, s_worth_worth, s_worth_table, s_table_num, s_table_truth, s_table_open, s_table_list, s_table_pair, s_table_either, s_table_left, s_table_right, s_table_thing, s_table_fault, s_table_worth, s_table_table]
      rw [hv1]
      refine seq_cut fun v2 hv2 => ?_
      obtain ⟨r, hr⟩ := siz_some (siz_pos hk)
      rw [siz_of hr] at hk
      have hrx : r.1 = y := by simpa using List.find?_some hr
      try simp only [tsNx, tsSeq, tsBrk, tsCt, tsDrop, tsRet, tsRetN, tsIf, tsAsg, tgN, tgsNil, tgsCons, tgTup, tgSub, tsFor, tsWhile, tiSeq, tiRng1, tiRng2, tiZip, tb, tv, tc, tac, tan, ttup, tlst, tq, tand, tor, tnot, tife, tandV, torV, tnotV, tneg, tsl, tno, tpt, tcall, tbi, tml, tml0, tmj, tisi, tlRev, tlRng1, tdisp, tps, tlc, ttYes, bt1, btN, setsT, wipeT, endT, List.getElem?_cons_zero, List.getElem?_cons_succ, List.set_cons_zero, List.set_cons_succ]
      try simp only [ev_t0, ev_t1, ev_t2, ev_eqs, ev_eqi, ev_intb, ev_inti, ev_add, ev_sub, ev_lt, ev_gt, ev_sl1, ev_in2, ev_lent, ev_isn, Bool.or_false, Bool.or_true, Bool.false_or, Bool.true_or, eqG_f, eqG_t, kq, Bool.not_true, Bool.not_false, if_true, if_false, ite_true, ite_false, reduceIte, s_num_num, s_num_truth, s_num_open, s_num_list, s_num_pair, s_num_either, s_num_left, s_num_right, s_num_thing, s_num_fault, s_num_worth, s_num_table, s_truth_num, s_truth_truth, s_truth_open, s_truth_list, s_truth_pair, s_truth_either, s_truth_left, s_truth_right, s_truth_thing, s_truth_fault, s_truth_worth, s_truth_table, s_open_num, s_open_truth, s_open_open, s_open_list, s_open_pair, s_open_either, s_open_left, s_open_right, s_open_thing, s_open_fault, s_open_worth, s_open_table, s_list_num, s_list_truth, s_list_open, s_list_list, s_list_pair, s_list_either, s_list_left, s_list_right, s_list_thing, s_list_fault, s_list_worth, s_list_table, s_pair_num, s_pair_truth, s_pair_open, s_pair_list, s_pair_pair, s_pair_either, s_pair_left, s_pair_right, s_pair_thing, s_pair_fault, s_pair_worth, s_pair_table, s_either_num, s_either_truth, s_either_open, s_either_list, s_either_pair, s_either_either, s_either_left, s_either_right, s_either_thing, s_either_fault, s_either_worth, s_either_table, s_left_num, s_left_truth, s_left_open, s_left_list, s_left_pair, s_left_either, s_left_left, s_left_right, s_left_thing, s_left_fault, s_left_worth, s_left_table, s_right_num, s_right_truth, s_right_open, s_right_list, s_right_pair, s_right_either, s_right_left, s_right_right, s_right_thing, s_right_fault, s_right_worth, s_right_table, s_thing_num, s_thing_truth, s_thing_open, s_thing_list, s_thing_pair, s_thing_either, s_thing_left, s_thing_right, s_thing_thing, s_thing_fault, s_thing_worth, s_thing_table, s_fault_num, s_fault_truth, s_fault_open, s_fault_list, s_fault_pair, s_fault_either, s_fault_left, s_fault_right, s_fault_thing, s_fault_fault, s_fault_worth, s_fault_table, s_worth_num, s_worth_truth, s_worth_open, s_worth_list, s_worth_pair, s_worth_either, s_worth_left, s_worth_right, s_worth_thing, s_worth_fault, s_worth_worth, s_worth_table, s_table_num, s_table_truth, s_table_open, s_table_list, s_table_pair, s_table_either, s_table_left, s_table_right, s_table_thing, s_table_fault, s_table_worth, s_table_table]
      simp only [oDict, mapsT, sqT?, Option.bind_some, pairs_maps]
      have hml : mergeT [] (mrows rows) = mrows rows := by
        rw [merge_nodup _ _ ?_ (fun _ _ => rfl), List.nil_append]
        unfold mrows
        rw [List.map_map]
        have : ((fun p : Key × T => p.1) ∘ fun r : Str × List (Option Nat) => ((Sum.inr r.1 : Key), T.tup [.str (Str.ofString "table"), .tup (rowsT r.1 0 r.2)])) = Sum.inr ∘ fun r => r.1 := rfl
        rw [this, ← List.map_map]
        exact List.Pairwise.map _ (fun a b h e => h (by injection e)) ok.nd
      refine ⟨z4000 (by rw [List.length_map]; have := ok.few; omega), .inl ⟨_, keys_maps rows, nw fun p S1 hp hpp x1 => ?_⟩⟩
      rw [hml] at hpp
      refine st_ixd hpp rfl (val_maps rows y r hr) ?_
      try simp only [ev_t0, ev_t1, ev_t2, ev_eqs, ev_eqi, ev_intb, ev_inti, ev_add, ev_sub, ev_lt, ev_gt, ev_sl1, ev_in2, ev_lent, ev_isn, Bool.or_false, Bool.or_true, Bool.false_or, Bool.true_or, eqG_f, eqG_t, kq, Bool.not_true, Bool.not_false, if_true, if_false, ite_true, ite_false, reduceIte, s_num_num, s_num_truth, s_num_open, s_num_list, s_num_pair, s_num_either, s_num_left, s_num_right, s_num_thing, s_num_fault, s_num_worth, s_num_table, s_truth_num, s_truth_truth, s_truth_open, s_truth_list, s_truth_pair, s_truth_either, s_truth_left, s_truth_right, s_truth_thing, s_truth_fault, s_truth_worth, s_truth_table, s_open_num, s_open_truth, s_open_open, s_open_list, s_open_pair, s_open_either, s_open_left, s_open_right, s_open_thing, s_open_fault, s_open_worth, s_open_table, s_list_num, s_list_truth, s_list_open, s_list_list, s_list_pair, s_list_either, s_list_left, s_list_right, s_list_thing, s_list_fault, s_list_worth, s_list_table, s_pair_num, s_pair_truth, s_pair_open, s_pair_list, s_pair_pair, s_pair_either, s_pair_left, s_pair_right, s_pair_thing, s_pair_fault, s_pair_worth, s_pair_table, s_either_num, s_either_truth, s_either_open, s_either_list, s_either_pair, s_either_either, s_either_left, s_either_right, s_either_thing, s_either_fault, s_either_worth, s_either_table, s_left_num, s_left_truth, s_left_open, s_left_list, s_left_pair, s_left_either, s_left_left, s_left_right, s_left_thing, s_left_fault, s_left_worth, s_left_table, s_right_num, s_right_truth, s_right_open, s_right_list, s_right_pair, s_right_either, s_right_left, s_right_right, s_right_thing, s_right_fault, s_right_worth, s_right_table, s_thing_num, s_thing_truth, s_thing_open, s_thing_list, s_thing_pair, s_thing_either, s_thing_left, s_thing_right, s_thing_thing, s_thing_fault, s_thing_worth, s_thing_table, s_fault_num, s_fault_truth, s_fault_open, s_fault_list, s_fault_pair, s_fault_either, s_fault_left, s_fault_right, s_fault_thing, s_fault_fault, s_fault_worth, s_fault_table, s_worth_num, s_worth_truth, s_worth_open, s_worth_list, s_worth_pair, s_worth_either, s_worth_left, s_worth_right, s_worth_thing, s_worth_fault, s_worth_worth, s_worth_table, s_table_num, s_table_truth, s_table_open, s_table_list, s_table_pair, s_table_either, s_table_left, s_table_right, s_table_thing, s_table_fault, s_table_worth, s_table_table]
      obtain ⟨z, ez, hz, hz2⟩ := atI_ok (xs := rowsT r.1 0 r.2) (i := (k : Int)) (by omega) (by rw [rowsT_len]; omega)
      refine st_ixt ez ?_
      rw [Int.toNat_natCast, rows_at r.1 r.2 0 k r.2[k] (List.getElem?_eq_getElem hk)] at hz2
      cases hz2
      try simp only [ev_t0, ev_t1, ev_t2, ev_eqs, ev_eqi, ev_intb, ev_inti, ev_add, ev_sub, ev_lt, ev_gt, ev_sl1, ev_in2, ev_lent, ev_isn, Bool.or_false, Bool.or_true, Bool.false_or, Bool.true_or, eqG_f, eqG_t, kq, Bool.not_true, Bool.not_false, if_true, if_false, ite_true, ite_false, reduceIte, s_num_num, s_num_truth, s_num_open, s_num_list, s_num_pair, s_num_either, s_num_left, s_num_right, s_num_thing, s_num_fault, s_num_worth, s_num_table, s_truth_num, s_truth_truth, s_truth_open, s_truth_list, s_truth_pair, s_truth_either, s_truth_left, s_truth_right, s_truth_thing, s_truth_fault, s_truth_worth, s_truth_table, s_open_num, s_open_truth, s_open_open, s_open_list, s_open_pair, s_open_either, s_open_left, s_open_right, s_open_thing, s_open_fault, s_open_worth, s_open_table, s_list_num, s_list_truth, s_list_open, s_list_list, s_list_pair, s_list_either, s_list_left, s_list_right, s_list_thing, s_list_fault, s_list_worth, s_list_table, s_pair_num, s_pair_truth, s_pair_open, s_pair_list, s_pair_pair, s_pair_either, s_pair_left, s_pair_right, s_pair_thing, s_pair_fault, s_pair_worth, s_pair_table, s_either_num, s_either_truth, s_either_open, s_either_list, s_either_pair, s_either_either, s_either_left, s_either_right, s_either_thing, s_either_fault, s_either_worth, s_either_table, s_left_num, s_left_truth, s_left_open, s_left_list, s_left_pair, s_left_either, s_left_left, s_left_right, s_left_thing, s_left_fault, s_left_worth, s_left_table, s_right_num, s_right_truth, s_right_open, s_right_list, s_right_pair, s_right_either, s_right_left, s_right_right, s_right_thing, s_right_fault, s_right_worth, s_right_table, s_thing_num, s_thing_truth, s_thing_open, s_thing_list, s_thing_pair, s_thing_either, s_thing_left, s_thing_right, s_thing_thing, s_thing_fault, s_thing_worth, s_thing_table, s_fault_num, s_fault_truth, s_fault_open, s_fault_list, s_fault_pair, s_fault_either, s_fault_left, s_fault_right, s_fault_thing, s_fault_fault, s_fault_worth, s_fault_table, s_worth_num, s_worth_truth, s_worth_open, s_worth_list, s_worth_pair, s_worth_either, s_worth_left, s_worth_right, s_worth_thing, s_worth_fault, s_worth_worth, s_worth_table, s_table_num, s_table_truth, s_table_open, s_table_list, s_table_pair, s_table_either, s_table_left, s_table_right, s_table_thing, s_table_fault, s_table_worth, s_table_table]
      refine ⟨z4000 (by simp), ?_⟩
      refine st_eq (told_pur _ _) f_pur (by rw [fault_d]; omega) ?_
      rw [told_fault]
      have := q S1 x1
      rw [m_thing, tell_of hr hk] at this
      cases htl : r.2[k] with
      | none =>
        rw [htl] at this
        try simp only [Option.isNone_none, ev_t0, ev_t1, ev_t2, ev_eqs, ev_eqi, ev_intb, ev_inti, ev_add, ev_sub, ev_lt, ev_gt, ev_sl1, ev_in2, ev_lent, ev_isn, Bool.or_false, Bool.or_true, Bool.false_or, Bool.true_or, eqG_f, eqG_t, kq, Bool.not_true, Bool.not_false, if_true, if_false, ite_true, ite_false, reduceIte, s_num_num, s_num_truth, s_num_open, s_num_list, s_num_pair, s_num_either, s_num_left, s_num_right, s_num_thing, s_num_fault, s_num_worth, s_num_table, s_truth_num, s_truth_truth, s_truth_open, s_truth_list, s_truth_pair, s_truth_either, s_truth_left, s_truth_right, s_truth_thing, s_truth_fault, s_truth_worth, s_truth_table, s_open_num, s_open_truth, s_open_open, s_open_list, s_open_pair, s_open_either, s_open_left, s_open_right, s_open_thing, s_open_fault, s_open_worth, s_open_table, s_list_num, s_list_truth, s_list_open, s_list_list, s_list_pair, s_list_either, s_list_left, s_list_right, s_list_thing, s_list_fault, s_list_worth, s_list_table, s_pair_num, s_pair_truth, s_pair_open, s_pair_list, s_pair_pair, s_pair_either, s_pair_left, s_pair_right, s_pair_thing, s_pair_fault, s_pair_worth, s_pair_table, s_either_num, s_either_truth, s_either_open, s_either_list, s_either_pair, s_either_either, s_either_left, s_either_right, s_either_thing, s_either_fault, s_either_worth, s_either_table, s_left_num, s_left_truth, s_left_open, s_left_list, s_left_pair, s_left_either, s_left_left, s_left_right, s_left_thing, s_left_fault, s_left_worth, s_left_table, s_right_num, s_right_truth, s_right_open, s_right_list, s_right_pair, s_right_either, s_right_left, s_right_right, s_right_thing, s_right_fault, s_right_worth, s_right_table, s_thing_num, s_thing_truth, s_thing_open, s_thing_list, s_thing_pair, s_thing_either, s_thing_left, s_thing_right, s_thing_thing, s_thing_fault, s_thing_worth, s_thing_table, s_fault_num, s_fault_truth, s_fault_open, s_fault_list, s_fault_pair, s_fault_either, s_fault_left, s_fault_right, s_fault_thing, s_fault_fault, s_fault_worth, s_fault_table, s_worth_num, s_worth_truth, s_worth_open, s_worth_list, s_worth_pair, s_worth_either, s_worth_left, s_worth_right, s_worth_thing, s_worth_fault, s_worth_worth, s_worth_table, s_table_num, s_table_truth, s_table_open, s_table_list, s_table_pair, s_table_either, s_table_left, s_table_right, s_table_thing, s_table_fault, s_table_worth, s_table_table]
        exact this
      | some j =>
        rw [htl] at this
        try simp only [Option.isNone_some, ev_t0, ev_t1, ev_t2, ev_eqs, ev_eqi, ev_intb, ev_inti, ev_add, ev_sub, ev_lt, ev_gt, ev_sl1, ev_in2, ev_lent, ev_isn, Bool.or_false, Bool.or_true, Bool.false_or, Bool.true_or, eqG_f, eqG_t, kq, Bool.not_true, Bool.not_false, if_true, if_false, ite_true, ite_false, reduceIte, s_num_num, s_num_truth, s_num_open, s_num_list, s_num_pair, s_num_either, s_num_left, s_num_right, s_num_thing, s_num_fault, s_num_worth, s_num_table, s_truth_num, s_truth_truth, s_truth_open, s_truth_list, s_truth_pair, s_truth_either, s_truth_left, s_truth_right, s_truth_thing, s_truth_fault, s_truth_worth, s_truth_table, s_open_num, s_open_truth, s_open_open, s_open_list, s_open_pair, s_open_either, s_open_left, s_open_right, s_open_thing, s_open_fault, s_open_worth, s_open_table, s_list_num, s_list_truth, s_list_open, s_list_list, s_list_pair, s_list_either, s_list_left, s_list_right, s_list_thing, s_list_fault, s_list_worth, s_list_table, s_pair_num, s_pair_truth, s_pair_open, s_pair_list, s_pair_pair, s_pair_either, s_pair_left, s_pair_right, s_pair_thing, s_pair_fault, s_pair_worth, s_pair_table, s_either_num, s_either_truth, s_either_open, s_either_list, s_either_pair, s_either_either, s_either_left, s_either_right, s_either_thing, s_either_fault, s_either_worth, s_either_table, s_left_num, s_left_truth, s_left_open, s_left_list, s_left_pair, s_left_either, s_left_left, s_left_right, s_left_thing, s_left_fault, s_left_worth, s_left_table, s_right_num, s_right_truth, s_right_open, s_right_list, s_right_pair, s_right_either, s_right_left, s_right_right, s_right_thing, s_right_fault, s_right_worth, s_right_table, s_thing_num, s_thing_truth, s_thing_open, s_thing_list, s_thing_pair, s_thing_either, s_thing_left, s_thing_right, s_thing_thing, s_thing_fault, s_thing_worth, s_thing_table, s_fault_num, s_fault_truth, s_fault_open, s_fault_list, s_fault_pair, s_fault_either, s_fault_left, s_fault_right, s_fault_thing, s_fault_fault, s_fault_worth, s_fault_table, s_worth_num, s_worth_truth, s_worth_open, s_worth_list, s_worth_pair, s_worth_either, s_worth_left, s_worth_right, s_worth_thing, s_worth_fault, s_worth_worth, s_worth_table, s_table_num, s_table_truth, s_table_open, s_table_list, s_table_pair, s_table_either, s_table_left, s_table_right, s_table_thing, s_table_fault, s_table_worth, s_table_table]
        simp only [Option.map_some, optT, w_thing] at this
        rw [hrx]
        exact this
    | _ => exact hhas.elim
  | lst ws =>
    cases kd with
    | lst k =>
      obtain ⟨h12, hall⟩ := hhas
      try simp only [w_lst, tsNx, tsSeq, tsBrk, tsCt, tsDrop, tsRet, tsRetN, tsIf, tsAsg, tgN, tgsNil, tgsCons, tgTup, tgSub, tsFor, tsWhile, tiSeq, tiRng1, tiRng2, tiZip, tb, tv, tc, tac, tan, ttup, tlst, tq, tand, tor, tnot, tife, tandV, torV, tnotV, tneg, tsl, tno, tpt, tcall, tbi, tml, tml0, tmj, tisi, tlRev, tlRng1, tdisp, tps, tlc, ttYes, bt1, btN, setsT, wipeT, endT, List.getElem?_cons_zero, List.getElem?_cons_succ, List.set_cons_zero, List.set_cons_succ]
      try simp only [tyT, isB_t, ev_t0, ev_t1, ev_t2, ev_eqs, ev_eqi, ev_intb, ev_inti, ev_add, ev_sub, ev_lt, ev_gt, ev_sl1, ev_in2, ev_lent, ev_isn, Bool.or_false, Bool.or_true, Bool.false_or, Bool.true_or, eqG_f, eqG_t, kq, Bool.not_true, Bool.not_false, if_true, if_false, ite_true, ite_false, reduceIte, s_num_num, s_num_truth, s_num_open, s_num_list, s_num_pair, s_num_either, s_num_left, s_num_right, s_num_thing, s_num_fault, s_num_worth, s_num_table, s_truth_num, s_truth_truth, s_truth_open, s_truth_list, s_truth_pair, s_truth_either, s_truth_left, s_truth_right, s_truth_thing, s_truth_fault, s_truth_worth, s_truth_table, s_open_num, s_open_truth, s_open_open, s_open_list, s_open_pair, s_open_either, s_open_left, s_open_right, s_open_thing, s_open_fault, s_open_worth, s_open_table, s_list_num, s_list_truth, s_list_open, s_list_list, s_list_pair, s_list_either, s_list_left, s_list_right, s_list_thing, s_list_fault, s_list_worth, s_list_table, s_pair_num, s_pair_truth, s_pair_open, s_pair_list, s_pair_pair, s_pair_either, s_pair_left, s_pair_right, s_pair_thing, s_pair_fault, s_pair_worth, s_pair_table, s_either_num, s_either_truth, s_either_open, s_either_list, s_either_pair, s_either_either, s_either_left, s_either_right, s_either_thing, s_either_fault, s_either_worth, s_either_table, s_left_num, s_left_truth, s_left_open, s_left_list, s_left_pair, s_left_either, s_left_left, s_left_right, s_left_thing, s_left_fault, s_left_worth, s_left_table, s_right_num, s_right_truth, s_right_open, s_right_list, s_right_pair, s_right_either, s_right_left, s_right_right, s_right_thing, s_right_fault, s_right_worth, s_right_table, s_thing_num, s_thing_truth, s_thing_open, s_thing_list, s_thing_pair, s_thing_either, s_thing_left, s_thing_right, s_thing_thing, s_thing_fault, s_thing_worth, s_thing_table, s_fault_num, s_fault_truth, s_fault_open, s_fault_list, s_fault_pair, s_fault_either, s_fault_left, s_fault_right, s_fault_thing, s_fault_fault, s_fault_worth, s_fault_table, s_worth_num, s_worth_truth, s_worth_open, s_worth_list, s_worth_pair, s_worth_either, s_worth_left, s_worth_right, s_worth_thing, s_worth_fault, s_worth_worth, s_worth_table, s_table_num, s_table_truth, s_table_open, s_table_list, s_table_pair, s_table_either, s_table_left, s_table_right, s_table_thing, s_table_fault, s_table_worth, s_table_table]
      refine parts _ _ ws w_lst s_list_thing (fun _ => rfl) (fun h => by rw [s_list_list] at h; cases h) (fun w hw => ⟨k, Nat.lt_of_succ_lt_succ hh, hall w hw⟩) h12 (fun h => by rw [m_lst, h]; rfl) fun vs h => ⟨.lst vs, by rw [m_lst, h]; rfl, by rw [if_pos s_list_list, w_lst]⟩
    | _ => exact hhas.elim
  | left x =>
    cases kd with
    | eith a b =>
      have hh' : max a.h b.h + 1 < n + 1 := hh
      try simp only [w_left, tsNx, tsSeq, tsBrk, tsCt, tsDrop, tsRet, tsRetN, tsIf, tsAsg, tgN, tgsNil, tgsCons, tgTup, tgSub, tsFor, tsWhile, tiSeq, tiRng1, tiRng2, tiZip, tb, tv, tc, tac, tan, ttup, tlst, tq, tand, tor, tnot, tife, tandV, torV, tnotV, tneg, tsl, tno, tpt, tcall, tbi, tml, tml0, tmj, tisi, tlRev, tlRng1, tdisp, tps, tlc, ttYes, bt1, btN, setsT, wipeT, endT, List.getElem?_cons_zero, List.getElem?_cons_succ, List.set_cons_zero, List.set_cons_succ]
      try simp only [tyT, isB_t, ev_t0, ev_t1, ev_t2, ev_eqs, ev_eqi, ev_intb, ev_inti, ev_add, ev_sub, ev_lt, ev_gt, ev_sl1, ev_in2, ev_lent, ev_isn, Bool.or_false, Bool.or_true, Bool.false_or, Bool.true_or, eqG_f, eqG_t, kq, Bool.not_true, Bool.not_false, if_true, if_false, ite_true, ite_false, reduceIte, s_num_num, s_num_truth, s_num_open, s_num_list, s_num_pair, s_num_either, s_num_left, s_num_right, s_num_thing, s_num_fault, s_num_worth, s_num_table, s_truth_num, s_truth_truth, s_truth_open, s_truth_list, s_truth_pair, s_truth_either, s_truth_left, s_truth_right, s_truth_thing, s_truth_fault, s_truth_worth, s_truth_table, s_open_num, s_open_truth, s_open_open, s_open_list, s_open_pair, s_open_either, s_open_left, s_open_right, s_open_thing, s_open_fault, s_open_worth, s_open_table, s_list_num, s_list_truth, s_list_open, s_list_list, s_list_pair, s_list_either, s_list_left, s_list_right, s_list_thing, s_list_fault, s_list_worth, s_list_table, s_pair_num, s_pair_truth, s_pair_open, s_pair_list, s_pair_pair, s_pair_either, s_pair_left, s_pair_right, s_pair_thing, s_pair_fault, s_pair_worth, s_pair_table, s_either_num, s_either_truth, s_either_open, s_either_list, s_either_pair, s_either_either, s_either_left, s_either_right, s_either_thing, s_either_fault, s_either_worth, s_either_table, s_left_num, s_left_truth, s_left_open, s_left_list, s_left_pair, s_left_either, s_left_left, s_left_right, s_left_thing, s_left_fault, s_left_worth, s_left_table, s_right_num, s_right_truth, s_right_open, s_right_list, s_right_pair, s_right_either, s_right_left, s_right_right, s_right_thing, s_right_fault, s_right_worth, s_right_table, s_thing_num, s_thing_truth, s_thing_open, s_thing_list, s_thing_pair, s_thing_either, s_thing_left, s_thing_right, s_thing_thing, s_thing_fault, s_thing_worth, s_thing_table, s_fault_num, s_fault_truth, s_fault_open, s_fault_list, s_fault_pair, s_fault_either, s_fault_left, s_fault_right, s_fault_thing, s_fault_fault, s_fault_worth, s_fault_table, s_worth_num, s_worth_truth, s_worth_open, s_worth_list, s_worth_pair, s_worth_either, s_worth_left, s_worth_right, s_worth_thing, s_worth_fault, s_worth_worth, s_worth_table, s_table_num, s_table_truth, s_table_open, s_table_list, s_table_pair, s_table_either, s_table_left, s_table_right, s_table_thing, s_table_fault, s_table_worth, s_table_table]
      refine parts _ _ [x] w_left s_left_thing (fun h => by rw [s_left_list] at h; cases h) (fun _ => rfl) (fun w hw => by rw [List.mem_singleton.mp hw]; exact ⟨a, by omega, hhas⟩) (by simp) (fun h => ?_) fun vs h => ?_
      · rw [ms_one] at h
        rw [m_left]
        cases e : mapW (tell rows) x with
        | none => rfl
        | some v => rw [e] at h; cases h
      · rw [ms_one] at h
        rw [m_left]
        cases e : mapW (tell rows) x with
        | none => rw [e] at h; cases h
        | some v => rw [e] at h; cases h; exact ⟨.left v, rfl, by rw [if_neg (by rw [s_left_list]; decide), w_left]; rfl⟩
    | _ => exact hhas.elim
  | right x =>
    cases kd with
    | eith a b =>
      have hh' : max a.h b.h + 1 < n + 1 := hh
      try simp only [w_right, tsNx, tsSeq, tsBrk, tsCt, tsDrop, tsRet, tsRetN, tsIf, tsAsg, tgN, tgsNil, tgsCons, tgTup, tgSub, tsFor, tsWhile, tiSeq, tiRng1, tiRng2, tiZip, tb, tv, tc, tac, tan, ttup, tlst, tq, tand, tor, tnot, tife, tandV, torV, tnotV, tneg, tsl, tno, tpt, tcall, tbi, tml, tml0, tmj, tisi, tlRev, tlRng1, tdisp, tps, tlc, ttYes, bt1, btN, setsT, wipeT, endT, List.getElem?_cons_zero, List.getElem?_cons_succ, List.set_cons_zero, List.set_cons_succ]
      try simp only [tyT, isB_t, ev_t0, ev_t1, ev_t2, ev_eqs, ev_eqi, ev_intb, ev_inti, ev_add, ev_sub, ev_lt, ev_gt, ev_sl1, ev_in2, ev_lent, ev_isn, Bool.or_false, Bool.or_true, Bool.false_or, Bool.true_or, eqG_f, eqG_t, kq, Bool.not_true, Bool.not_false, if_true, if_false, ite_true, ite_false, reduceIte, s_num_num, s_num_truth, s_num_open, s_num_list, s_num_pair, s_num_either, s_num_left, s_num_right, s_num_thing, s_num_fault, s_num_worth, s_num_table, s_truth_num, s_truth_truth, s_truth_open, s_truth_list, s_truth_pair, s_truth_either, s_truth_left, s_truth_right, s_truth_thing, s_truth_fault, s_truth_worth, s_truth_table, s_open_num, s_open_truth, s_open_open, s_open_list, s_open_pair, s_open_either, s_open_left, s_open_right, s_open_thing, s_open_fault, s_open_worth, s_open_table, s_list_num, s_list_truth, s_list_open, s_list_list, s_list_pair, s_list_either, s_list_left, s_list_right, s_list_thing, s_list_fault, s_list_worth, s_list_table, s_pair_num, s_pair_truth, s_pair_open, s_pair_list, s_pair_pair, s_pair_either, s_pair_left, s_pair_right, s_pair_thing, s_pair_fault, s_pair_worth, s_pair_table, s_either_num, s_either_truth, s_either_open, s_either_list, s_either_pair, s_either_either, s_either_left, s_either_right, s_either_thing, s_either_fault, s_either_worth, s_either_table, s_left_num, s_left_truth, s_left_open, s_left_list, s_left_pair, s_left_either, s_left_left, s_left_right, s_left_thing, s_left_fault, s_left_worth, s_left_table, s_right_num, s_right_truth, s_right_open, s_right_list, s_right_pair, s_right_either, s_right_left, s_right_right, s_right_thing, s_right_fault, s_right_worth, s_right_table, s_thing_num, s_thing_truth, s_thing_open, s_thing_list, s_thing_pair, s_thing_either, s_thing_left, s_thing_right, s_thing_thing, s_thing_fault, s_thing_worth, s_thing_table, s_fault_num, s_fault_truth, s_fault_open, s_fault_list, s_fault_pair, s_fault_either, s_fault_left, s_fault_right, s_fault_thing, s_fault_fault, s_fault_worth, s_fault_table, s_worth_num, s_worth_truth, s_worth_open, s_worth_list, s_worth_pair, s_worth_either, s_worth_left, s_worth_right, s_worth_thing, s_worth_fault, s_worth_worth, s_worth_table, s_table_num, s_table_truth, s_table_open, s_table_list, s_table_pair, s_table_either, s_table_left, s_table_right, s_table_thing, s_table_fault, s_table_worth, s_table_table]
      refine parts _ _ [x] w_right s_right_thing (fun h => by rw [s_right_list] at h; cases h) (fun _ => rfl) (fun w hw => by rw [List.mem_singleton.mp hw]; exact ⟨b, by omega, hhas⟩) (by simp) (fun h => ?_) fun vs h => ?_
      · rw [ms_one] at h
        rw [m_right]
        cases e : mapW (tell rows) x with
        | none => rfl
        | some v => rw [e] at h; cases h
      · rw [ms_one] at h
        rw [m_right]
        cases e : mapW (tell rows) x with
        | none => rw [e] at h; cases h
        | some v => rw [e] at h; cases h; exact ⟨.right v, rfl, by rw [if_neg (by rw [s_right_list]; decide), w_right]; rfl⟩
    | _ => exact hhas.elim
  | pair x y =>
    cases kd with
    | pair a b =>
      have hh' : max a.h b.h + 1 < n + 1 := hh
      try simp only [w_pair, tsNx, tsSeq, tsBrk, tsCt, tsDrop, tsRet, tsRetN, tsIf, tsAsg, tgN, tgsNil, tgsCons, tgTup, tgSub, tsFor, tsWhile, tiSeq, tiRng1, tiRng2, tiZip, tb, tv, tc, tac, tan, ttup, tlst, tq, tand, tor, tnot, tife, tandV, torV, tnotV, tneg, tsl, tno, tpt, tcall, tbi, tml, tml0, tmj, tisi, tlRev, tlRng1, tdisp, tps, tlc, ttYes, bt1, btN, setsT, wipeT, endT, List.getElem?_cons_zero, List.getElem?_cons_succ, List.set_cons_zero, List.set_cons_succ]
      try simp only [tyT, isB_t, ev_t0, ev_t1, ev_t2, ev_eqs, ev_eqi, ev_intb, ev_inti, ev_add, ev_sub, ev_lt, ev_gt, ev_sl1, ev_in2, ev_lent, ev_isn, Bool.or_false, Bool.or_true, Bool.false_or, Bool.true_or, eqG_f, eqG_t, kq, Bool.not_true, Bool.not_false, if_true, if_false, ite_true, ite_false, reduceIte, s_num_num, s_num_truth, s_num_open, s_num_list, s_num_pair, s_num_either, s_num_left, s_num_right, s_num_thing, s_num_fault, s_num_worth, s_num_table, s_truth_num, s_truth_truth, s_truth_open, s_truth_list, s_truth_pair, s_truth_either, s_truth_left, s_truth_right, s_truth_thing, s_truth_fault, s_truth_worth, s_truth_table, s_open_num, s_open_truth, s_open_open, s_open_list, s_open_pair, s_open_either, s_open_left, s_open_right, s_open_thing, s_open_fault, s_open_worth, s_open_table, s_list_num, s_list_truth, s_list_open, s_list_list, s_list_pair, s_list_either, s_list_left, s_list_right, s_list_thing, s_list_fault, s_list_worth, s_list_table, s_pair_num, s_pair_truth, s_pair_open, s_pair_list, s_pair_pair, s_pair_either, s_pair_left, s_pair_right, s_pair_thing, s_pair_fault, s_pair_worth, s_pair_table, s_either_num, s_either_truth, s_either_open, s_either_list, s_either_pair, s_either_either, s_either_left, s_either_right, s_either_thing, s_either_fault, s_either_worth, s_either_table, s_left_num, s_left_truth, s_left_open, s_left_list, s_left_pair, s_left_either, s_left_left, s_left_right, s_left_thing, s_left_fault, s_left_worth, s_left_table, s_right_num, s_right_truth, s_right_open, s_right_list, s_right_pair, s_right_either, s_right_left, s_right_right, s_right_thing, s_right_fault, s_right_worth, s_right_table, s_thing_num, s_thing_truth, s_thing_open, s_thing_list, s_thing_pair, s_thing_either, s_thing_left, s_thing_right, s_thing_thing, s_thing_fault, s_thing_worth, s_thing_table, s_fault_num, s_fault_truth, s_fault_open, s_fault_list, s_fault_pair, s_fault_either, s_fault_left, s_fault_right, s_fault_thing, s_fault_fault, s_fault_worth, s_fault_table, s_worth_num, s_worth_truth, s_worth_open, s_worth_list, s_worth_pair, s_worth_either, s_worth_left, s_worth_right, s_worth_thing, s_worth_fault, s_worth_worth, s_worth_table, s_table_num, s_table_truth, s_table_open, s_table_list, s_table_pair, s_table_either, s_table_left, s_table_right, s_table_thing, s_table_fault, s_table_worth, s_table_table]
      refine parts _ _ [x, y] w_pair s_pair_thing (fun h => by rw [s_pair_list] at h; cases h) (fun _ => rfl) (fun w hw => ?_) (by simp) (fun h => ?_) fun vs h => ?_
      · simp only [List.mem_cons, List.not_mem_nil, or_false] at hw
        rcases hw with rfl | rfl
        · exact ⟨a, by omega, hhas.1⟩
        · exact ⟨b, by omega, hhas.2⟩
      · rw [ms_two] at h
        rw [m_pair]
        cases e : mapW (tell rows) x with
        | none => rfl
        | some v =>
          cases e2 : mapW (tell rows) y with
          | none => rfl
          | some u => rw [e, e2] at h; cases h
      · rw [ms_two] at h
        rw [m_pair]
        cases e : mapW (tell rows) x with
        | none => rw [e] at h; cases h
        | some v =>
          cases e2 : mapW (tell rows) y with
          | none => rw [e, e2] at h; cases h
          | some u => rw [e, e2] at h; cases h; exact ⟨.pair v u, rfl, by rw [if_neg (by rw [s_pair_list]; decide), w_pair]; rfl⟩
    | _ => exact hhas.elim
end LAW
set_option Elab.async false
set_option linter.all false
set_option maxRecDepth 100000
set_option maxHeartbeats 4000000
/-! TLCa: bounds of worths and kinds as texts. -/
namespace LAW
open PySem PySem.Spec PyProof.Rows L2 TL
abbrev rl (x : T) : Nat := (reprT x).length
theorem tt_len (ts : List Str) : (tupleText ts).length ≤ piled ts + 2 := by
  unfold tupleText
  rw [strLen_append, strLen_append]
  have e1 : ((("(" : String) : Str)).length = 1 := rfl
  have e2 : (((if ts.length == 1 then ",)" else ")" : String) : Str)).length ≤ 2 := by
    cases (ts.length == 1) <;> decide
  cases ts with
  | nil => 
    have : (Str.join (", " : Str) []).length = 0 := rfl
    rw [e1, this]; rw [piled_nil]
    have : (((if ([] : List Str).length == 1 then ",)" else ")" : String) : Str)).length = 1 := rfl
    omega
  | cons t r =>
    have := join_length_add (t :: r) (by simp)
    rw [e1]
    omega
def rls : List T → Nat | [] => 0 | x :: xs => (rl x + 2) + rls xs
theorem rls_map (f : W → T) (b : Nat) : ∀ ws : List W, (∀ w ∈ ws, rl (f w) ≤ b) → rls (ws.map f) ≤ ws.length * (b + 2)
  | [], _ => Nat.zero_le _
  | w :: ws, h => by
    have h1 := h w List.mem_cons_self
    have h2 := rls_map f b ws fun x hx => h x (List.mem_cons_of_mem _ hx)
    show rl (f w) + 2 + rls (ws.map f) ≤ (ws.length + 1) * (b + 2)
    rw [Nat.succ_mul]; omega
theorem piled_rls : ∀ xs : List T, piled (PyData.shownAll (datasT xs)) = rls xs
  | [] => by rw [datasT_nil, PyData.shownAll]; rfl
  | x :: xs => by rw [datasT_cons, PyData.shownAll, piled_cons, piled_rls xs]; rfl
theorem rl_tup (xs : List T) : rl (.tup xs) ≤ rls xs + 2 := by
  unfold rl reprT
  rw [dataT_tup, PyData.shown, ← piled_rls]
  exact tt_len _
theorem rl_low {x : Str} (h : lower x) : rl (.str x) ≤ 82 := by
  unfold rl reprT dataT
  rw [PyData.shown]
  have := PySem.StrLaws.reprText_len x fun c hc => by have := h.2.2 c hc; omega
  have := h.2.1
  omega
theorem rl_int {n : Int} (h0 : 0 ≤ n) (h : n ≤ 10 ^ 9) : rl (.int n) ≤ 82 := by
  unfold rl reprT dataT
  rw [PyData.shown]
  have : (Str.ofString (toString n)).length ≤ 82 := by
    have := int_text_length_le10 (a := n) (k := 10) (by decide) (by omega)
    rw [PySem.ofString_length]; omega
  exact this
theorem rl_bl {b : Bool} : rl (.bl b) ≤ 82 := by
  unfold rl reprT dataT
  rw [PyData.shown]
  cases b <;> decide
def B : Nat → Nat | 0 => 200 | h + 1 => 13 * (B h + 2) + 100
theorem B_mono : ∀ {a b : Nat}, a ≤ b → B a ≤ B b := by
  intro a b h
  induction h with
  | refl => exact Nat.le_refl _
  | step _ ih => exact Nat.le_trans ih (by show _ ≤ 13 * (B _ + 2) + 100; omega)
theorem rl_thing : rl (.str (Str.ofString "thing")) ≤ 82 := by unfold rl reprT dataT; rw [PyData.shown]; decide +kernel
theorem rl_list : rl (.str (Str.ofString "list")) ≤ 82 := by unfold rl reprT dataT; rw [PyData.shown]; decide +kernel
theorem rl_left : rl (.str (Str.ofString "left")) ≤ 82 := by unfold rl reprT dataT; rw [PyData.shown]; decide +kernel
theorem rl_right : rl (.str (Str.ofString "right")) ≤ 82 := by unfold rl reprT dataT; rw [PyData.shown]; decide +kernel
theorem rl_pair : rl (.str (Str.ofString "pair")) ≤ 82 := by unfold rl reprT dataT; rw [PyData.shown]; decide +kernel
theorem rl_num : rl (.str (Str.ofString "num")) ≤ 82 := by unfold rl reprT dataT; rw [PyData.shown]; decide +kernel
theorem rl_truth : rl (.str (Str.ofString "truth")) ≤ 82 := by unfold rl reprT dataT; rw [PyData.shown]; decide +kernel
theorem rl_open : rl (.str (Str.ofString "open")) ≤ 82 := by unfold rl reprT dataT; rw [PyData.shown]; decide +kernel
theorem rl_either : rl (.str (Str.ofString "either")) ≤ 82 := by unfold rl reprT dataT; rw [PyData.shown]; decide +kernel
theorem rl_worth : rl (.str (Str.ofString "worth")) ≤ 82 := by unfold rl reprT dataT; rw [PyData.shown]; decide +kernel
theorem rl_fault : rl (.str (Str.ofString "fault")) ≤ 82 := by unfold rl reprT dataT; rw [PyData.shown]; decide +kernel
theorem rl1 (a : T) : rl (.tup [a]) ≤ rl a + 4 := Nat.le_trans (rl_tup _) (by show rl a + 2 + 0 + 2 ≤ _; omega)
theorem rl2 (a b : T) : rl (.tup [a, b]) ≤ rl a + rl b + 6 := Nat.le_trans (rl_tup _) (by show rl a + 2 + (rl b + 2 + 0) + 2 ≤ _; omega)
theorem rl3 (a b c : T) : rl (.tup [a, b, c]) ≤ rl a + rl b + rl c + 8 := Nat.le_trans (rl_tup _) (by show rl a + 2 + (rl b + 2 + (rl c + 2 + 0)) + 2 ≤ _; omega)
/-! may be shown -/
def shw (x : T) : Bool := (dataT x).showable
def shws (xs : List T) : Bool := PyData.showableAll (datasT xs)
theorem shw_tup {xs : List T} : shw (.tup xs) = shws xs := by unfold shw shws; rw [dataT_tup, PyData.showable]
theorem shws_cons {x : T} {xs : List T} : shws (x :: xs) = (shw x && shws xs) := by unfold shw shws; rw [datasT_cons, PyData.showableAll]
theorem shws_nil : shws [] = true := by unfold shws; rw [datasT_nil, PyData.showableAll]
theorem shw_str {x : Str} : shw (.str x) = true := by unfold shw dataT; rw [PyData.showable]
theorem shw_bl {x : Bool} : shw (.bl x) = true := by unfold shw dataT; rw [PyData.showable]
theorem shw_int {n : Int} (h0 : 0 ≤ n) (h : n ≤ 10 ^ 9) : shw (.int n) = true := by
  unfold shw dataT; rw [PyData.showable]
  have : n.natAbs.log2 < 64 := by
    rcases Nat.eq_zero_or_pos n.natAbs with z | z
    · rw [z]; decide
    · exact (Nat.log2_lt (by omega)).mpr (by omega)
  exact decide_eq_true (by omega)
theorem shws_map (f : W → T) : ∀ ws : List W, (∀ w ∈ ws, shw (f w) = true) → shws (ws.map f) = true
  | [], _ => shws_nil
  | w :: ws, h => by rw [List.map_cons, shws_cons, h w List.mem_cons_self, shws_map f ws fun x hx => h x (List.mem_cons_of_mem _ hx)]; rfl
mutual
theorem dep_T : ∀ x : T, (dataT x).depth = x.depth
  | .non => by unfold dataT; rw [PyData.depth, depth_non]
  | .bl _ => by unfold dataT; rw [PyData.depth, depth_bl]
  | .int _ => by unfold dataT; rw [PyData.depth, depth_int]
  | .str _ => by unfold dataT; rw [PyData.depth, depth_str]
  | .fl _ => by unfold dataT T.depth; rw [PyData.depth]
  | .adr _ => by unfold dataT T.depth; rw [PyData.depth]
  | .tup xs => by rw [dataT_tup, PyData.depth, depth_tup, deps_T xs]
theorem deps_T : ∀ xs : List T, PyData.depthAll (datasT xs) = T.depths xs
  | [] => by rw [datasT_nil, PyData.depthAll, depths_nil]
  | x :: xs => by rw [datasT_cons, PyData.depthAll, depths_cons, dep_T x, deps_T xs]
end
theorem deps_map (f : W → T) (b : Nat) : ∀ ws : List W, (∀ w ∈ ws, (f w).depth ≤ b) → T.depths (ws.map f) ≤ b
  | [], _ => by rw [List.map_nil, depths_nil]; exact Nat.zero_le _
  | w :: ws, h => by
    rw [List.map_cons, depths_cons]
    exact Nat.max_le.mpr ⟨h w List.mem_cons_self, deps_map f b ws fun x hx => h x (List.mem_cons_of_mem _ hx)⟩
structure Small (siz : Str → Nat) : Prop where
  low : ∀ x, 1 ≤ siz x → lower x
  few : ∀ x, siz x ≤ 12
theorem w_facts {siz : Str → Nat} (sm : Small siz) : ∀ (kd : Kd) (w : W), Has siz 12 kd w → (W.t w).depth ≤ 2 * kd.h + 1 ∧ shw w.t = true ∧ rl w.t ≤ B kd.h
  | .num, .num n, h => by
    rw [w_num]
    exact ⟨by rw [depth_int]; omega, shw_int h.1 h.2, Nat.le_trans (rl_int h.1 h.2) (by decide)⟩
  | .tru, .tru n, h => by
    rw [w_tru]
    exact ⟨by rw [depth_bl]; omega, shw_bl, Nat.le_trans rl_bl (by decide)⟩
  | .opn x, .thing y k, h => by
    obtain ⟨rfl, hk⟩ := h
    have hf := sm.few x
    have hl := sm.low x (by omega)
    have h0 : (0 : Int) ≤ (k : Int) := by omega
    have h9 : (k : Int) ≤ 10 ^ 9 := by omega
    rw [w_thing]
    refine ⟨?_, ?_, ?_⟩
    · simp only [depth_tup, depths_cons, depths_nil, depth_str, depth_int]; show 1 ≤ 2 * 0 + 1; decide
    · simp only [shw_tup, shws_cons, shws_nil, shw_str, shw_int h0 h9, Bool.and_true]
    · have a1 := rl_low hl
      have a2 := rl_int h0 h9
      have a3 := rl3 (.str (Str.ofString "thing")) (.str x) (.int (k : Int))
      have a4 := rl_thing
      show _ ≤ 200
      have b1 : rl (.str (Str.ofString "thing")) ≤ 20 := by unfold rl reprT dataT; rw [PyData.shown]; decide +kernel
      have b2 : rl (.int (k : Int)) ≤ 20 := by
        unfold rl reprT dataT
        rw [PyData.shown]
        show (Str.ofString (toString (k : Int))).length ≤ 20
        have := int_text_length_le10 (a := (k : Int)) (k := 10) (by decide) (by omega)
        rw [PySem.ofString_length]; omega
      omega
  | .lst k, .lst ws, h => by
    obtain ⟨h1, h2⟩ := h
    have ih := fun w hw => w_facts sm k w (h2 w hw)
    rw [w_lst]
    refine ⟨?_, ?_, ?_⟩
    · have := deps_map W.t (2 * k.h + 1) ws fun w hw => (ih w hw).1
      simp only [depth_tup, depths_cons, depths_nil, depth_str]
      show _ ≤ 2 * (k.h + 1) + 1
      omega
    · have := shws_map W.t ws fun w hw => (ih w hw).2.1
      simp only [shw_tup, shws_cons, shws_nil, shw_str, this, Bool.and_true]
    · have a1 := rls_map W.t (B k.h) ws fun w hw => (ih w hw).2.2
      have a2 := rl_tup (ws.map W.t)
      have a3 := rl2 (.str (Str.ofString "list")) (.tup (ws.map W.t))
      have a4 := rl_list
      have a5 : ws.length * (B k.h + 2) ≤ 12 * (B k.h + 2) := Nat.mul_le_mul_right _ h1
      show _ ≤ 13 * (B k.h + 2) + 100
      omega
  | .pair a b, .pair x y, h => by
    have i1 := w_facts sm a x h.1
    have i2 := w_facts sm b y h.2
    rw [w_pair]
    have m1 := B_mono (Nat.le_max_left a.h b.h)
    have m2 := B_mono (Nat.le_max_right a.h b.h)
    refine ⟨?_, ?_, ?_⟩
    · simp only [depth_tup, depths_cons, depths_nil, depth_str]
      show _ ≤ 2 * (max a.h b.h + 1) + 1
      omega
    · simp only [shw_tup, shws_cons, shws_nil, shw_str, i1.2.1, i2.2.1, Bool.and_true]
    · have a3 := rl3 (.str (Str.ofString "pair")) x.t y.t
      have a4 := rl_pair
      show _ ≤ 13 * (B (max a.h b.h) + 2) + 100
      omega
  | .eith a b, .left x, h => by
    have i1 := w_facts sm a x h
    rw [w_left]
    have m1 := B_mono (Nat.le_max_left a.h b.h)
    refine ⟨?_, ?_, ?_⟩
    · simp only [depth_tup, depths_cons, depths_nil, depth_str]
      show _ ≤ 2 * (max a.h b.h + 1) + 1
      omega
    · simp only [shw_tup, shws_cons, shws_nil, shw_str, i1.2.1, Bool.and_true]
    · have a3 := rl2 (.str (Str.ofString "left")) x.t
      have a4 := rl_left
      show _ ≤ 13 * (B (max a.h b.h) + 2) + 100
      omega
  | .eith a b, .right x, h => by
    have i1 := w_facts sm b x h
    rw [w_right]
    have m1 := B_mono (Nat.le_max_right a.h b.h)
    refine ⟨?_, ?_, ?_⟩
    · simp only [depth_tup, depths_cons, depths_nil, depth_str]
      show _ ≤ 2 * (max a.h b.h + 1) + 1
      omega
    · simp only [shw_tup, shws_cons, shws_nil, shw_str, i1.2.1, Bool.and_true]
    · have a3 := rl2 (.str (Str.ofString "right")) x.t
      have a4 := rl_right
      show _ ≤ 13 * (B (max a.h b.h) + 2) + 100
      omega
/-- mapped, it stays a worth -/
theorem has_map {siz s2 : Str → Nat} {f : Str → Nat → Option Nat} (hf : ∀ x k j, k < siz x → f x k = some j → j < s2 x) : ∀ (kd : Kd) (w v : W), Has siz 12 kd w → mapW f w = some v → Has s2 12 kd v
  | .num, .num n, v, h, e => by rw [m_num] at e; cases e; exact h
  | .tru, .tru n, v, h, e => by rw [m_tru] at e; cases e; exact h
  | .opn x, .thing y k, v, h, e => by
    obtain ⟨rfl, hk⟩ := h
    rw [m_thing] at e
    cases q : f x k with
    | none => rw [q] at e; cases e
    | some j => rw [q] at e; cases e; exact ⟨rfl, hf x k j hk q⟩
  | .lst k, .lst ws, v, h, e => by
    rw [m_lst] at e
    cases q : mapWs f ws with
    | none => rw [q] at e; cases e
    | some vs =>
      rw [q] at e; cases e
      have key : ∀ (ws vs : List W), mapWs f ws = some vs → (∀ w ∈ ws, Has siz 12 k w) → vs.length = ws.length ∧ ∀ v ∈ vs, Has s2 12 k v := by
        intro ws
        induction ws with
        | nil => intro vs q _; unfold mapWs at q; cases q; exact ⟨rfl, by intro v hv; cases hv⟩
        | cons w ws ih =>
          intro vs q hw
          unfold mapWs at q
          cases e1 : mapW f w with
          | none => rw [e1] at q; cases q
          | some x =>
            rw [e1] at q
            cases e2 : mapWs f ws with
            | none => rw [e2] at q; cases q
            | some xs =>
              rw [e2] at q; cases q
              obtain ⟨l1, l2⟩ := ih xs e2 fun y hy => hw y (List.mem_cons_of_mem _ hy)
              refine ⟨by rw [List.length_cons, List.length_cons, l1], fun v hv => ?_⟩
              rcases List.mem_cons.mp hv with z | z
              · subst z; exact has_map hf k w v (hw w List.mem_cons_self) e1
              · exact l2 v z
      obtain ⟨l1, l2⟩ := key ws vs q h.2
      exact ⟨by rw [l1]; exact h.1, l2⟩
  | .pair a b, .pair x y, v, h, e => by
    rw [m_pair] at e
    cases e1 : mapW f x with
    | none => rw [e1] at e; cases e
    | some x' =>
      cases e2 : mapW f y with
      | none => rw [e1, e2] at e; cases e
      | some y' => rw [e1, e2] at e; cases e; exact ⟨has_map hf a x x' h.1 e1, has_map hf b y y' h.2 e2⟩
  | .eith a b, .left x, v, h, e => by
    rw [m_left] at e
    cases e1 : mapW f x with
    | none => rw [e1] at e; cases e
    | some x' => rw [e1] at e; cases e; exact has_map (kd := a) hf x x' h e1
  | .eith a b, .right x, v, h, e => by
    rw [m_right] at e
    cases e1 : mapW f x with
    | none => rw [e1] at e; cases e
    | some x' => rw [e1] at e; cases e; exact has_map hf b x x' h e1
end LAW
set_option Elab.async false
set_option linter.all false
set_option maxRecDepth 100000
set_option maxHeartbeats 4000000
/-! TLCb: right. -/
namespace LAW
open PySem PySem.Spec PyProof.Rows L2 TL
theorem siz_low {rows : Rows} (ok : RowsOk rows) (x : Str) (h : 1 ≤ siz rows x) : lower x := by
  obtain ⟨r, hr⟩ := siz_some h
  have hm := List.mem_of_find?_eq_some hr
  have hp : r.1 = x := by simpa using List.find?_some hr
  rw [← hp]; exact ok.lo r hm
theorem siz_few {rows : Rows} (ok : RowsOk rows) (x : Str) : siz rows x ≤ 12 := by
  rcases Nat.eq_zero_or_pos (siz rows x) with z | z
  · omega
  · obtain ⟨r, hr⟩ := siz_some z
    rw [siz_of hr]
    exact (ok.sz r (List.mem_of_find?_eq_some hr)).2.1
def s12 (rows : Rows) (x : Str) : Nat := if siz rows x = 0 then 0 else 12
theorem s12_small {rows : Rows} (ok : RowsOk rows) : Small (s12 rows) where
  low := fun x h => siz_low ok x (by
    unfold s12 at h
    split at h
    · omega
    · omega)
  few := fun x => by unfold s12; split <;> omega
theorem tell_lt {rows : Rows} (ok : RowsOk rows) : ∀ x k j, k < siz rows x → tell rows x k = some j → j < s12 rows x := fun x k j hk e => by
  obtain ⟨r, hr⟩ := siz_some (siz_pos hk)
  have hk' := hk
  rw [siz_of hr] at hk
  rw [tell_of hr hk] at e
  have := (ok.sz r (List.mem_of_find?_eq_some hr)).2.2 _ (List.getElem_mem hk) j e
  unfold s12
  rw [if_neg (by omega)]; exact this
structure Fine (x : T) : Prop where
  pu : x.pur = true
  de : x.depth ≤ 20
  sh : shw x = true
  rl : rl x ≤ 7000000
theorem w_fine {sz : Str → Nat} (sm : Small sz) {kd : Kd} {w : W} (hh : kd.h < 5) (h : Has sz 12 kd w) : Fine (.tup [.str (Str.ofString "worth"), w.t]) := by
  obtain ⟨h1, h2, h3⟩ := w_facts sm kd w h
  have hB : B kd.h ≤ 6100000 := Nat.le_trans (B_mono (show kd.h ≤ 4 by omega)) (by decide)
  refine ⟨res_pur (some w), ?_, ?_, ?_⟩
  · simp only [depth_tup, depths_cons, depths_nil, depth_str]; omega
  · simp only [shw_tup, shws_cons, shws_nil, shw_str, h2, Bool.and_true]
  · have a3 := rl2 (.str (Str.ofString "worth")) w.t
    have a4 := rl_worth
    omega
theorem res_fine {rows : Rows} (ok : RowsOk rows) {kd : Kd} {wo : W} (hh : kd.h < 5) (h : Has (siz rows) 12 kd wo) : Fine (resT (mapW (tell rows) wo)) := by
  cases e : mapW (tell rows) wo with
  | none =>
    refine ⟨res_pur none, ?_, ?_, ?_⟩
    · simp only [resT, depth_tup, depths_cons, depths_nil, depth_str]; decide
    · simp only [resT, shw_tup, shws_cons, shws_nil, shw_str]; rfl
    · have a3 := rl1 (.str (Str.ofString "fault"))
      have a4 := rl_fault
      show LAW.rl (.tup [.str (Str.ofString "fault")]) ≤ _
      omega
  | some v => exact w_fine (s12_small ok) hh (has_map (tell_lt ok) kd wo v h e)
theorem tyT_res (S : Sto) (o : Option W) : tyT S (resT o) = some "tuple" := by cases o <;> rfl
theorem st_repr {xs : List T} {S : Sto} {Q : T → Sto → Prop} (f : Fine (.tup xs)) (q : Q (.str (reprT (.tup xs))) S) : oRepr [.tup xs] S Q := by
  unfold oRepr
  refine ⟨by rw [← pur_tup]; exact f.pu, f.sh, by rw [dep_T]; exact Nat.le_trans f.de (by decide), Nat.le_trans f.rl (by decide), q⟩
theorem st_reprR {o : Option W} {S : Sto} {Q : T → Sto → Prop} (f : Fine (resT o)) (q : Q (.str (reprT (resT o))) S) : oRepr [resT o] S Q := by
  cases o with
  | none => exact st_repr f q
  | some w => exact st_repr f q
theorem vc_right (ts : List T) (S : Sto) (Q : T → Sto → Prop) (hl : ts.length = 3) (h : spRight ts S Q) : t_Lright 5 (endT Q) (startT N_Lright.length ts) S := by
  obtain ⟨rows, kd, wo, rfl, ok, hh, hhas, q⟩ := h
  rw [show startT N_Lright.length [Kd.t kd, mapsT rows, W.t wo] = [some (Kd.t kd), some (mapsT rows), some (W.t wo), none, none, none] from rfl]
  have fi := res_fine ok hh hhas
  unfold t_Lright
  refine seq_cut fun v1 hv1 => ?_
  try simp only [tsNx, tsSeq, tsBrk, tsCt, tsDrop, tsRet, tsRetN, tsIf, tsAsg, tgN, tgsNil, tgsCons, tgTup, tgSub, tsFor, tsWhile, tiSeq, tiRng1, tiRng2, tiZip, tb, tv, tc, tac, tan, ttup, tlst, tq, tand, tor, tnot, tife, tandV, torV, tnotV, tneg, tsl, tno, tpt, tcall, tbi, tml, tml0, tmj, tisi, tlRev, tlRng1, tdisp, tps, tlc, ttYes, bt1, btN, setsT, wipeT, endT, List.getElem?_cons_zero, List.getElem?_cons_succ, List.set_cons_zero, List.set_cons_succ]
  refine ⟨rfl, rows, kd, wo, rfl, ok, hh, hhas, fun S1 x1 => ⟨rfl, mapW (tell rows) wo, rfl, ?_⟩⟩
  rw [hv1]
  refine seq_cut fun v2 hv2 => for_cut fun b1 hb1 => ?_
  try simp only [tsNx, tsSeq, tsBrk, tsCt, tsDrop, tsRet, tsRetN, tsIf, tsAsg, tgN, tgsNil, tgsCons, tgTup, tgSub, tsFor, tsWhile, tiSeq, tiRng1, tiRng2, tiZip, tb, tv, tc, tac, tan, ttup, tlst, tq, tand, tor, tnot, tife, tandV, torV, tnotV, tneg, tsl, tno, tpt, tcall, tbi, tml, tml0, tmj, tisi, tlRev, tlRng1, tdisp, tps, tlc, ttYes, bt1, btN, setsT, wipeT, endT, List.getElem?_cons_zero, List.getElem?_cons_succ, List.set_cons_zero, List.set_cons_succ]
  refine ⟨by omega, by omega, fun i ρ' S' => (∃ k4 k5, ρ' = [some (Kd.t kd), some (mapsT rows), some (W.t wo), some (resT (mapW (tell rows) wo)), k4, k5]) ∧ Ex S S', ⟨⟨_, _, rfl⟩, x1⟩, ?_⟩
  rintro i ρ' S' ⟨⟨k4, k5, rfl⟩, hx⟩
  refine ⟨trivial, ?_⟩
  cases he : (rngT 0 (2 : Int).toNat)[i]? with
  | none =>
    simp only []
    rw [hv2]
    try simp only [tsNx, tsSeq, tsBrk, tsCt, tsDrop, tsRet, tsRetN, tsIf, tsAsg, tgN, tgsNil, tgsCons, tgTup, tgSub, tsFor, tsWhile, tiSeq, tiRng1, tiRng2, tiZip, tb, tv, tc, tac, tan, ttup, tlst, tq, tand, tor, tnot, tife, tandV, torV, tnotV, tneg, tsl, tno, tpt, tcall, tbi, tml, tml0, tmj, tisi, tlRev, tlRng1, tdisp, tps, tlc, ttYes, bt1, btN, setsT, wipeT, endT, List.getElem?_cons_zero, List.getElem?_cons_succ, List.set_cons_zero, List.set_cons_succ]
    exact q S' hx
  | some y =>
    try simp only [tsNx, tsSeq, tsBrk, tsCt, tsDrop, tsRet, tsRetN, tsIf, tsAsg, tgN, tgsNil, tgsCons, tgTup, tgSub, tsFor, tsWhile, tiSeq, tiRng1, tiRng2, tiZip, tb, tv, tc, tac, tan, ttup, tlst, tq, tand, tor, tnot, tife, tandV, torV, tnotV, tneg, tsl, tno, tpt, tcall, tbi, tml, tml0, tmj, tisi, tlRev, tlRng1, tdisp, tps, tlc, ttYes, bt1, btN, setsT, wipeT, endT, List.getElem?_cons_zero, List.getElem?_cons_succ, List.set_cons_zero, List.set_cons_succ]
    rw [hb1]
    refine seq_cut fun v3 hv3 => ?_
    try simp only [tsNx, tsSeq, tsBrk, tsCt, tsDrop, tsRet, tsRetN, tsIf, tsAsg, tgN, tgsNil, tgsCons, tgTup, tgSub, tsFor, tsWhile, tiSeq, tiRng1, tiRng2, tiZip, tb, tv, tc, tac, tan, ttup, tlst, tq, tand, tor, tnot, tife, tandV, torV, tnotV, tneg, tsl, tno, tpt, tcall, tbi, tml, tml0, tmj, tisi, tlRev, tlRng1, tdisp, tps, tlc, ttYes, bt1, btN, setsT, wipeT, endT, List.getElem?_cons_zero, List.getElem?_cons_succ, List.set_cons_zero, List.set_cons_succ]
    refine ⟨rfl, rows, kd, wo, rfl, ok, hh, hhas, fun S2 x2 => ?_⟩
    rw [hv3]
    try simp only [tsNx, tsSeq, tsBrk, tsCt, tsDrop, tsRet, tsRetN, tsIf, tsAsg, tgN, tgsNil, tgsCons, tgTup, tgSub, tsFor, tsWhile, tiSeq, tiRng1, tiRng2, tiZip, tb, tv, tc, tac, tan, ttup, tlst, tq, tand, tor, tnot, tife, tandV, torV, tnotV, tneg, tsl, tno, tpt, tcall, tbi, tml, tml0, tmj, tisi, tlRev, tlRng1, tdisp, tps, tlc, ttYes, bt1, btN, setsT, wipeT, endT, List.getElem?_cons_zero, List.getElem?_cons_succ, List.set_cons_zero, List.set_cons_succ]
    simp only [tyT_res, isB_t]
    try simp only [ev_t0, ev_t1, ev_t2, ev_eqs, ev_eqi, ev_intb, ev_inti, ev_add, ev_sub, ev_lt, ev_gt, ev_sl1, ev_in2, ev_lent, ev_isn, Bool.or_false, Bool.or_true, Bool.false_or, Bool.true_or, eqG_f, eqG_t, kq, Bool.not_true, Bool.not_false, if_true, if_false, ite_true, ite_false, reduceIte, s_num_num, s_num_truth, s_num_open, s_num_list, s_num_pair, s_num_either, s_num_left, s_num_right, s_num_thing, s_num_fault, s_num_worth, s_num_table, s_truth_num, s_truth_truth, s_truth_open, s_truth_list, s_truth_pair, s_truth_either, s_truth_left, s_truth_right, s_truth_thing, s_truth_fault, s_truth_worth, s_truth_table, s_open_num, s_open_truth, s_open_open, s_open_list, s_open_pair, s_open_either, s_open_left, s_open_right, s_open_thing, s_open_fault, s_open_worth, s_open_table, s_list_num, s_list_truth, s_list_open, s_list_list, s_list_pair, s_list_either, s_list_left, s_list_right, s_list_thing, s_list_fault, s_list_worth, s_list_table, s_pair_num, s_pair_truth, s_pair_open, s_pair_list, s_pair_pair, s_pair_either, s_pair_left, s_pair_right, s_pair_thing, s_pair_fault, s_pair_worth, s_pair_table, s_either_num, s_either_truth, s_either_open, s_either_list, s_either_pair, s_either_either, s_either_left, s_either_right, s_either_thing, s_either_fault, s_either_worth, s_either_table, s_left_num, s_left_truth, s_left_open, s_left_list, s_left_pair, s_left_either, s_left_left, s_left_right, s_left_thing, s_left_fault, s_left_worth, s_left_table, s_right_num, s_right_truth, s_right_open, s_right_list, s_right_pair, s_right_either, s_right_left, s_right_right, s_right_thing, s_right_fault, s_right_worth, s_right_table, s_thing_num, s_thing_truth, s_thing_open, s_thing_list, s_thing_pair, s_thing_either, s_thing_left, s_thing_right, s_thing_thing, s_thing_fault, s_thing_worth, s_thing_table, s_fault_num, s_fault_truth, s_fault_open, s_fault_list, s_fault_pair, s_fault_either, s_fault_left, s_fault_right, s_fault_thing, s_fault_fault, s_fault_worth, s_fault_table, s_worth_num, s_worth_truth, s_worth_open, s_worth_list, s_worth_pair, s_worth_either, s_worth_left, s_worth_right, s_worth_thing, s_worth_fault, s_worth_worth, s_worth_table, s_table_num, s_table_truth, s_table_open, s_table_list, s_table_pair, s_table_either, s_table_left, s_table_right, s_table_thing, s_table_fault, s_table_worth, s_table_table]
    refine st_eq fi.pu fi.pu (by have := fi.de; omega) ?_
    rw [eqT_refl _ fi.pu]
    try simp only [ev_t0, ev_t1, ev_t2, ev_eqs, ev_eqi, ev_intb, ev_inti, ev_add, ev_sub, ev_lt, ev_gt, ev_sl1, ev_in2, ev_lent, ev_isn, Bool.or_false, Bool.or_true, Bool.false_or, Bool.true_or, eqG_f, eqG_t, kq, Bool.not_true, Bool.not_false, if_true, if_false, ite_true, ite_false, reduceIte, s_num_num, s_num_truth, s_num_open, s_num_list, s_num_pair, s_num_either, s_num_left, s_num_right, s_num_thing, s_num_fault, s_num_worth, s_num_table, s_truth_num, s_truth_truth, s_truth_open, s_truth_list, s_truth_pair, s_truth_either, s_truth_left, s_truth_right, s_truth_thing, s_truth_fault, s_truth_worth, s_truth_table, s_open_num, s_open_truth, s_open_open, s_open_list, s_open_pair, s_open_either, s_open_left, s_open_right, s_open_thing, s_open_fault, s_open_worth, s_open_table, s_list_num, s_list_truth, s_list_open, s_list_list, s_list_pair, s_list_either, s_list_left, s_list_right, s_list_thing, s_list_fault, s_list_worth, s_list_table, s_pair_num, s_pair_truth, s_pair_open, s_pair_list, s_pair_pair, s_pair_either, s_pair_left, s_pair_right, s_pair_thing, s_pair_fault, s_pair_worth, s_pair_table, s_either_num, s_either_truth, s_either_open, s_either_list, s_either_pair, s_either_either, s_either_left, s_either_right, s_either_thing, s_either_fault, s_either_worth, s_either_table, s_left_num, s_left_truth, s_left_open, s_left_list, s_left_pair, s_left_either, s_left_left, s_left_right, s_left_thing, s_left_fault, s_left_worth, s_left_table, s_right_num, s_right_truth, s_right_open, s_right_list, s_right_pair, s_right_either, s_right_left, s_right_right, s_right_thing, s_right_fault, s_right_worth, s_right_table, s_thing_num, s_thing_truth, s_thing_open, s_thing_list, s_thing_pair, s_thing_either, s_thing_left, s_thing_right, s_thing_thing, s_thing_fault, s_thing_worth, s_thing_table, s_fault_num, s_fault_truth, s_fault_open, s_fault_list, s_fault_pair, s_fault_either, s_fault_left, s_fault_right, s_fault_thing, s_fault_fault, s_fault_worth, s_fault_table, s_worth_num, s_worth_truth, s_worth_open, s_worth_list, s_worth_pair, s_worth_either, s_worth_left, s_worth_right, s_worth_thing, s_worth_fault, s_worth_worth, s_worth_table, s_table_num, s_table_truth, s_table_open, s_table_list, s_table_pair, s_table_either, s_table_left, s_table_right, s_table_thing, s_table_fault, s_table_worth, s_table_table]
    refine st_reprR fi (st_reprR fi ?_)
    refine st_eq pur_str pur_str (by rw [depth_str]; omega) ?_
    rw [eqT_refl _ pur_str]
    try simp only [ev_t0, ev_t1, ev_t2, ev_eqs, ev_eqi, ev_intb, ev_inti, ev_add, ev_sub, ev_lt, ev_gt, ev_sl1, ev_in2, ev_lent, ev_isn, Bool.or_false, Bool.or_true, Bool.false_or, Bool.true_or, eqG_f, eqG_t, kq, Bool.not_true, Bool.not_false, if_true, if_false, ite_true, ite_false, reduceIte, s_num_num, s_num_truth, s_num_open, s_num_list, s_num_pair, s_num_either, s_num_left, s_num_right, s_num_thing, s_num_fault, s_num_worth, s_num_table, s_truth_num, s_truth_truth, s_truth_open, s_truth_list, s_truth_pair, s_truth_either, s_truth_left, s_truth_right, s_truth_thing, s_truth_fault, s_truth_worth, s_truth_table, s_open_num, s_open_truth, s_open_open, s_open_list, s_open_pair, s_open_either, s_open_left, s_open_right, s_open_thing, s_open_fault, s_open_worth, s_open_table, s_list_num, s_list_truth, s_list_open, s_list_list, s_list_pair, s_list_either, s_list_left, s_list_right, s_list_thing, s_list_fault, s_list_worth, s_list_table, s_pair_num, s_pair_truth, s_pair_open, s_pair_list, s_pair_pair, s_pair_either, s_pair_left, s_pair_right, s_pair_thing, s_pair_fault, s_pair_worth, s_pair_table, s_either_num, s_either_truth, s_either_open, s_either_list, s_either_pair, s_either_either, s_either_left, s_either_right, s_either_thing, s_either_fault, s_either_worth, s_either_table, s_left_num, s_left_truth, s_left_open, s_left_list, s_left_pair, s_left_either, s_left_left, s_left_right, s_left_thing, s_left_fault, s_left_worth, s_left_table, s_right_num, s_right_truth, s_right_open, s_right_list, s_right_pair, s_right_either, s_right_left, s_right_right, s_right_thing, s_right_fault, s_right_worth, s_right_table, s_thing_num, s_thing_truth, s_thing_open, s_thing_list, s_thing_pair, s_thing_either, s_thing_left, s_thing_right, s_thing_thing, s_thing_fault, s_thing_worth, s_thing_table, s_fault_num, s_fault_truth, s_fault_open, s_fault_list, s_fault_pair, s_fault_either, s_fault_left, s_fault_right, s_fault_thing, s_fault_fault, s_fault_worth, s_fault_table, s_worth_num, s_worth_truth, s_worth_open, s_worth_list, s_worth_pair, s_worth_either, s_worth_left, s_worth_right, s_worth_thing, s_worth_fault, s_worth_worth, s_worth_table, s_table_num, s_table_truth, s_table_open, s_table_list, s_table_pair, s_table_either, s_table_left, s_table_right, s_table_thing, s_table_fault, s_table_worth, s_table_table]
    exact ⟨⟨_, _, rfl⟩, hx.trans x2⟩
end LAW
set_option Elab.async false
set_option linter.all false
set_option maxRecDepth 100000
set_option maxHeartbeats 4000000
/-! TLCc: sizes, the same maps, kinds as texts. -/
namespace LAW
open PySem PySem.Spec PyProof.Rows L2 TL
abbrev Zs := List (Str × Nat)
def rep (zs : Zs) : List (Key × T) := zs.map fun q => (.inr q.1, .int (q.2 : Int))
def putZ (zs : Zs) (x : Str) (n : Nat) : Zs := if (zs.any fun q => decide (q.1 = x)) = true then zs.map (fun q => if q.1 = x then (q.1, n) else q) else zs ++ [(x, n)]
theorem inr_eq {x y : Str} : ((Sum.inr x : Key) = Sum.inr y) = (x = y) := by
  simp only [eq_iff_iff]
  exact ⟨fun h => by injection h, fun h => by rw [h]⟩
theorem rep_put (zs : Zs) (x : Str) (n : Nat) : putT (rep zs) (.inr x) (.int (n : Int)) = rep (putZ zs x n) := by
  unfold putT putZ rep
  have e : (List.map (fun q : Str × Nat => ((Sum.inr q.1 : Key), T.int (q.2 : Int))) zs).any (fun kv => decide (kv.1 = Sum.inr x)) = zs.any fun q => decide (q.1 = x) := by
    rw [List.any_map]
    congr 1
    funext q
    show decide ((Sum.inr q.1 : Key) = Sum.inr x) = _
    simp only [inr_eq]
  rw [e]
  split
  · rw [List.map_map, List.map_map]
    apply List.map_congr_left
    intro q _
    show (if (Sum.inr q.1 : Key) = Sum.inr x then _ else _) = _
    by_cases h : q.1 = x
    · rw [if_pos (by rw [h])]; simp [h]
    · rw [if_neg (by rw [inr_eq]; exact h)]; simp [h]
  · rw [List.map_append]; rfl
structure ZOk (zs : Zs) : Prop where
  nd : (zs.map (·.1)).Nodup
  sz : ∀ q ∈ zs, 1 ≤ q.2 ∧ q.2 ≤ 12
theorem any_mem {zs : Zs} {x : Str} : (zs.any fun q => decide (q.1 = x)) = true ↔ x ∈ zs.map (·.1) := by
  rw [List.any_eq_true, List.mem_map]
  constructor
  · rintro ⟨q, h1, h2⟩; exact ⟨q, h1, by simpa using h2⟩
  · rintro ⟨q, h1, h2⟩; exact ⟨q, h1, by simpa using h2⟩
theorem putZ_keys {zs : Zs} {x : Str} {n : Nat} : (putZ zs x n).map (·.1) = if x ∈ zs.map (·.1) then zs.map (·.1) else zs.map (·.1) ++ [x] := by
  unfold putZ
  by_cases h : x ∈ zs.map (·.1)
  · rw [if_pos (any_mem.mpr h), if_pos h, List.map_map]
    apply List.map_congr_left
    intro q _
    show (if q.1 = x then (q.1, n) else q).1 = q.1
    split <;> rfl
  · rw [if_neg (fun z => h (any_mem.mp z)), if_neg h, List.map_append]; rfl
theorem ZOk.put {zs : Zs} (ok : ZOk zs) {x : Str} {n : Nat} (h1 : 1 ≤ n) (h2 : n ≤ 12) : ZOk (putZ zs x n) := by
  refine ⟨?_, fun q hq => ?_⟩
  · rw [putZ_keys]
    split
    · exact ok.nd
    · rename_i h
      exact List.nodup_append.mpr ⟨ok.nd, by simp, fun a ha b hb e => h (by rw [List.mem_singleton] at hb; rw [← hb, ← e]; exact ha)⟩
  · unfold putZ at hq
    split at hq
    · obtain ⟨q', h, e⟩ := List.mem_map.mp hq
      split at e
      · subst e; exact ⟨h1, h2⟩
      · subst e; exact ok.sz _ h
    · rcases List.mem_append.mp hq with h | h
      · exact ok.sz q h
      · rw [List.mem_singleton.mp h]; exact ⟨h1, h2⟩
def mergeZ (zs more : Zs) : Zs := more.foldl (fun acc q => putZ acc q.1 q.2) zs
theorem rep_merge : ∀ (more zs : Zs), mergeT (rep zs) (rep more) = rep (mergeZ zs more)
  | [], zs => rfl
  | q :: more, zs => by
    show mergeT (putT (rep zs) (.inr q.1) (.int (q.2 : Int))) (rep more) = _
    rw [rep_put, rep_merge more]; rfl
theorem mergeZ_ok : ∀ (more zs : Zs), ZOk zs → (∀ q ∈ more, 1 ≤ q.2 ∧ q.2 ≤ 12) → ZOk (mergeZ zs more)
  | [], zs, ok, _ => ok
  | q :: more, zs, ok, h => mergeZ_ok more _ (ok.put (h q List.mem_cons_self).1 (h q List.mem_cons_self).2) fun p hp => h p (List.mem_cons_of_mem _ hp)
theorem mergeZ_keys : ∀ (more zs : Zs) (x : Str), x ∈ (mergeZ zs more).map (·.1) ↔ x ∈ zs.map (·.1) ∨ x ∈ more.map (·.1)
  | [], zs, x => by simp [mergeZ]
  | q :: more, zs, x => by
    show x ∈ (mergeZ (putZ zs q.1 q.2) more).map (·.1) ↔ _
    rw [mergeZ_keys more, putZ_keys]
    by_cases h : q.1 ∈ zs.map (·.1)
    · rw [if_pos h, List.map_cons, List.mem_cons]
      constructor
      · rintro (a | a)
        · exact .inl a
        · exact .inr (.inr a)
      · rintro (a | a | a)
        · exact .inl a
        · rw [a]; exact .inl h
        · exact .inr a
    · rw [if_neg h, List.map_cons, List.mem_cons, List.mem_append, List.mem_singleton, or_assoc]
theorem putZ_len (zs : Zs) (x : Str) (n : Nat) : (putZ zs x n).length ≤ zs.length + 1 := by
  unfold putZ
  split
  · rw [List.length_map]; omega
  · rw [List.length_append]; simp
theorem mergeZ_len : ∀ (more zs : Zs), (mergeZ zs more).length ≤ zs.length + more.length
  | [], zs => Nat.le_refl _
  | q :: more, zs => by
    have := mergeZ_len more (putZ zs q.1 q.2)
    have h2 := putZ_len zs q.1 q.2
    show (mergeZ (putZ zs q.1 q.2) more).length ≤ _
    rw [List.length_cons]; omega
def szZ (zs : Zs) (x : Str) : Nat := ((zs.find? fun q => decide (q.1 = x)).map (·.2)).getD 0
theorem val_rep : ∀ (zs : Zs) (x : Str), x ∈ zs.map (·.1) → valT (rep zs) (.inr x) = some (.int (szZ zs x : Int)) ∧ ∃ q ∈ zs, q.2 = szZ zs x
  | [], x, h => by cases h
  | q :: zs, x, h => by
    by_cases e : q.1 = x
    · refine ⟨?_, q, List.mem_cons_self, ?_⟩
      · show valT ((Sum.inr q.1, T.int (q.2 : Int)) :: rep zs) _ = _
        rw [valT_pos (congrArg Sum.inr e)]
        unfold szZ
        rw [List.find?_cons, decide_eq_true e]; rfl
      · unfold szZ
        rw [List.find?_cons, decide_eq_true e]; rfl
    · have h' : x ∈ zs.map (·.1) := by
        rw [List.map_cons] at h
        rcases List.mem_cons.mp h with z | z
        · exact absurd z.symm e
        · exact z
      obtain ⟨i1, p, hp, i2⟩ := val_rep zs x h'
      have es : szZ (q :: zs) x = szZ zs x := by unfold szZ; rw [List.find?_cons, decide_eq_false e]
      refine ⟨?_, p, List.mem_cons_of_mem _ hp, by rw [es]; exact i2⟩
      show valT ((Sum.inr q.1, T.int (q.2 : Int)) :: rep zs) _ = _
      rw [valT_neg (by rw [inr_eq]; exact e), es]; exact i1
theorem rep_keys (zs : Zs) : (rep zs).map (·.1) = (zs.map (·.1)).map Sum.inr := by unfold rep; rw [List.map_map, List.map_map]; rfl
theorem sizes_of {S : Sto} {z : Addr} {zs : Zs} (ok : ZOk zs) (h : S z = some (.dk (rep zs))) : Sizes S z (szZ zs) (zs.map (·.1)) := ⟨rep zs, h, fun x hx => by
  obtain ⟨h1, q, hq, h2⟩ := val_rep zs x hx
  have := ok.sz q hq
  exact ⟨h1, by omega, by omega⟩⟩
/-! the same maps -/
def idr (n : Nat) : List (Option Nat) := (List.range n).map some
def same (rows : Rows) : Rows := rows.map fun r => (r.1, idr r.2.length)
theorem idr_at {n k : Nat} (h : k < n) : (idr n)[k]? = some (some k) := by unfold idr; simp [h]
theorem idr_len (n : Nat) : (idr n).length = n := by unfold idr; simp
theorem same_find : ∀ (rows : Rows) (x : Str), (same rows).find? (fun r => decide (r.1 = x)) = (rows.find? fun r => decide (r.1 = x)).map fun r => (r.1, idr r.2.length)
  | [], _ => rfl
  | r :: rows, x => by
    show ((r.1, idr r.2.length) :: same rows).find? _ = _
    rw [List.find?_cons, List.find?_cons]
    by_cases e : r.1 = x
    · rw [decide_eq_true e]; rfl
    · rw [decide_eq_false e]; exact same_find rows x
theorem same_siz (rows : Rows) (x : Str) : siz (same rows) x = siz rows x := by
  unfold siz
  rw [same_find]
  cases rows.find? (fun r => decide (r.1 = x)) with
  | none => rfl
  | some r => show (idr r.2.length).length = r.2.length; exact idr_len _
theorem same_tell {rows : Rows} {x : Str} {k : Nat} (h : k < siz rows x) : tell (same rows) x k = some k := by
  obtain ⟨r, hr⟩ := siz_some (siz_pos h)
  rw [siz_of hr] at h
  have e : (same rows).find? (fun r => decide (r.1 = x)) = some (r.1, idr r.2.length) := by rw [same_find, hr]; rfl
  unfold tell
  rw [e]
  show ((idr r.2.length)[k]?).join = _
  rw [idr_at h]; rfl
theorem same_ok {rows : Rows} (ok : RowsOk rows) : RowsOk (same rows) where
  nd := by
    have : (same rows).map (·.1) = rows.map (·.1) := by unfold same; rw [List.map_map]; rfl
    rw [this]; exact ok.nd
  lo := fun r hr => by
    obtain ⟨q, hq, rfl⟩ := List.mem_map.mp hr
    exact ok.lo q hq
  sz := fun r hr => by
    obtain ⟨q, hq, rfl⟩ := List.mem_map.mp hr
    have := ok.sz q hq
    refine ⟨by show 1 ≤ (idr _).length; rw [idr_len]; exact this.1, by show (idr _).length ≤ 12; rw [idr_len]; exact this.2.1, fun o ho j e => ?_⟩
    have ho : o ∈ idr q.2.length := ho
    unfold idr at ho
    obtain ⟨i, hi, rfl⟩ := List.mem_map.mp ho
    cases e
    have := List.mem_range.mp hi
    omega
  few := by unfold same; rw [List.length_map]; exact ok.few
theorem map_id {sz : Str → Nat} {f : Str → Nat → Option Nat} (hf : ∀ x k, k < sz x → f x k = some k) : ∀ (kd : Kd) (w : W), Has sz 12 kd w → mapW f w = some w
  | .num, .num n, h => m_num
  | .tru, .tru n, h => m_tru
  | .opn x, .thing y k, h => by
    obtain ⟨rfl, hk⟩ := h
    rw [m_thing, hf x k hk]; rfl
  | .lst k, .lst ws, h => by
    have key : ∀ ws : List W, (∀ w ∈ ws, Has sz 12 k w) → mapWs f ws = some ws := by
      intro ws
      induction ws with
      | nil => intro _; unfold mapWs; rfl
      | cons w ws ih =>
        intro hw
        unfold mapWs
        rw [map_id hf k w (hw w List.mem_cons_self), ih fun y hy => hw y (List.mem_cons_of_mem _ hy)]; rfl
    rw [m_lst, key ws h.2]; rfl
  | .pair a b, .pair x y, h => by rw [m_pair, map_id hf a x h.1, map_id hf b y h.2]; rfl
  | .eith a b, .left x, h => by rw [m_left, map_id (kd := a) hf x h]; rfl
  | .eith a b, .right x, h => by rw [m_right, map_id hf b x h]; rfl
theorem has_congr {s1 s2 : Str → Nat} {names : List Str} (he : ∀ x ∈ names, s2 x = s1 x) : ∀ (kd : Kd) (w : W), kd.ok names → Has s1 12 kd w → Has s2 12 kd w
  | .num, .num n, _, h => h
  | .tru, .tru n, _, h => h
  | .opn x, .thing y k, o, h => by
    obtain ⟨rfl, hk⟩ := h
    exact ⟨rfl, by rw [he x o]; exact hk⟩
  | .lst k, .lst ws, o, h => ⟨h.1, fun w hw => has_congr he k w o (h.2 w hw)⟩
  | .pair a b, .pair x y, o, h => ⟨has_congr he a x o.1 h.1, has_congr he b y o.2 h.2⟩
  | .eith a b, .left x, o, h => has_congr (kd := a) he x o.1 h
  | .eith a b, .right x, o, h => has_congr he b x o.2 h
theorem ok_mono {xs ys : List Str} (h : ∀ x ∈ xs, x ∈ ys) : ∀ kd : Kd, kd.ok xs → kd.ok ys
  | .num, _ => trivial | .tru, _ => trivial | .opn x, o => h x o | .lst k, o => ok_mono h k o
  | .pair a b, o => ⟨ok_mono h a o.1, ok_mono h b o.2⟩ | .eith a b, o => ⟨ok_mono h a o.1, ok_mono h b o.2⟩
/-! kinds as texts -/
theorem k_facts {opens : List Str} (hl : ∀ x ∈ opens, lower x) : ∀ kd : Kd, kd.ok opens → kd.t.pur = true ∧ kd.t.depth ≤ kd.h + 1 ∧ shw kd.t = true ∧ rl kd.t ≤ B kd.h
  | .num, _ => by
    refine ⟨by simp only [Kd.t, pur_tup, purs_cons, pur_str, purs_nil, Bool.and_true], by simp only [Kd.t, depth_tup, depths_cons, depths_nil, depth_str]; decide, by simp only [Kd.t, shw_tup, shws_cons, shws_nil, shw_str]; rfl, ?_⟩
    have a := rl1 (.str (Str.ofString "num")); have b := rl_num
    show rl (.tup [.str (Str.ofString "num")]) ≤ 200; omega
  | .tru, _ => by
    refine ⟨by simp only [Kd.t, pur_tup, purs_cons, pur_str, purs_nil, Bool.and_true], by simp only [Kd.t, depth_tup, depths_cons, depths_nil, depth_str]; decide, by simp only [Kd.t, shw_tup, shws_cons, shws_nil, shw_str]; rfl, ?_⟩
    have a := rl1 (.str (Str.ofString "truth")); have b := rl_truth
    show rl (.tup [.str (Str.ofString "truth")]) ≤ 200; omega
  | .opn x, o => by
    refine ⟨by simp only [Kd.t, pur_tup, purs_cons, pur_str, purs_nil, Bool.and_true], by simp only [Kd.t, depth_tup, depths_cons, depths_nil, depth_str]; show 1 ≤ 0 + 1; decide, by simp only [Kd.t, shw_tup, shws_cons, shws_nil, shw_str]; rfl, ?_⟩
    have a := rl2 (.str (Str.ofString "open")) (.str x); have b := rl_open; have c := rl_low (hl x o)
    show rl (.tup [.str (Str.ofString "open"), .str x]) ≤ 200; omega
  | .lst k, o => by
    obtain ⟨i1, i2, i3, i4⟩ := k_facts hl k o
    refine ⟨by simp only [Kd.t, pur_tup, purs_cons, pur_str, purs_nil, i1, Bool.and_true], by simp only [Kd.t, depth_tup, depths_cons, depths_nil, depth_str, Kd.h]; omega, by simp only [Kd.t, shw_tup, shws_cons, shws_nil, shw_str, i3]; rfl, ?_⟩
    have a := rl2 (.str (Str.ofString "list")) k.t; have b := rl_list
    show rl (.tup [.str (Str.ofString "list"), k.t]) ≤ 13 * (B k.h + 2) + 100; omega
  | .pair x y, o => by
    obtain ⟨i1, i2, i3, i4⟩ := k_facts hl x o.1
    obtain ⟨j1, j2, j3, j4⟩ := k_facts hl y o.2
    have m1 := B_mono (Nat.le_max_left x.h y.h)
    have m2 := B_mono (Nat.le_max_right x.h y.h)
    refine ⟨by simp only [Kd.t, pur_tup, purs_cons, pur_str, purs_nil, i1, j1, Bool.and_true], by simp only [Kd.t, depth_tup, depths_cons, depths_nil, depth_str, Kd.h]; omega, by simp only [Kd.t, shw_tup, shws_cons, shws_nil, shw_str, i3, j3]; rfl, ?_⟩
    have a := rl3 (.str (Str.ofString "pair")) x.t y.t; have b := rl_pair
    show rl (.tup [.str (Str.ofString "pair"), x.t, y.t]) ≤ 13 * (B (max x.h y.h) + 2) + 100; omega
  | .eith x y, o => by
    obtain ⟨i1, i2, i3, i4⟩ := k_facts hl x o.1
    obtain ⟨j1, j2, j3, j4⟩ := k_facts hl y o.2
    have m1 := B_mono (Nat.le_max_left x.h y.h)
    have m2 := B_mono (Nat.le_max_right x.h y.h)
    refine ⟨by simp only [Kd.t, pur_tup, purs_cons, pur_str, purs_nil, i1, j1, Bool.and_true], by simp only [Kd.t, depth_tup, depths_cons, depths_nil, depth_str, Kd.h]; omega, by simp only [Kd.t, shw_tup, shws_cons, shws_nil, shw_str, i3, j3]; rfl, ?_⟩
    have a := rl3 (.str (Str.ofString "either")) x.t y.t; have b := rl_either
    show rl (.tup [.str (Str.ofString "either"), x.t, y.t]) ≤ 13 * (B (max x.h y.h) + 2) + 100; omega
theorem k_parts {opens : List Str} (hl : ∀ x ∈ opens, lower x) (kd : Kd) (o : kd.ok opens) (hh : kd.h < 5) : ∃ tag parts, kd.t = .tup (.str tag :: parts) ∧ Fine (.tup parts) := by
  have big : ∀ k : Kd, k.h < 5 → B k.h ≤ 6100000 := fun k hk => Nat.le_trans (B_mono (show k.h ≤ 4 by omega)) (by decide)
  have rl0 : rl (.tup []) ≤ 2 := rl_tup []
  cases kd with
  | num => exact ⟨_, _, rfl, by simp only [pur_tup, purs_nil], by simp only [depth_tup, depths_nil]; decide, by rw [shw_tup, shws_nil], by omega⟩
  | tru => exact ⟨_, _, rfl, by simp only [pur_tup, purs_nil], by simp only [depth_tup, depths_nil]; decide, by rw [shw_tup, shws_nil], by omega⟩
  | opn x =>
    have a := rl1 (.str x); have c := rl_low (hl x o)
    exact ⟨_, _, rfl, by simp only [pur_tup, purs_cons, pur_str, purs_nil, Bool.and_true], by simp only [depth_tup, depths_cons, depths_nil, depth_str]; decide, by simp only [shw_tup, shws_cons, shws_nil, shw_str]; rfl, by omega⟩
  | lst k =>
    obtain ⟨i1, i2, i3, i4⟩ := k_facts hl k o
    have hh' : k.h + 1 < 5 := hh
    have b := big k (by omega)
    have a := rl1 k.t
    exact ⟨_, _, rfl, by simp only [pur_tup, purs_cons, purs_nil, i1, Bool.and_true], by simp only [depth_tup, depths_cons, depths_nil]; omega, by simp only [shw_tup, shws_cons, shws_nil, i3]; rfl, by omega⟩
  | pair x y =>
    obtain ⟨i1, i2, i3, i4⟩ := k_facts hl x o.1
    obtain ⟨j1, j2, j3, j4⟩ := k_facts hl y o.2
    have hh' : max x.h y.h + 1 < 5 := hh
    have b1 : B x.h ≤ 500000 := Nat.le_trans (B_mono (show x.h ≤ 3 by omega)) (by decide)
    have b2 : B y.h ≤ 500000 := Nat.le_trans (B_mono (show y.h ≤ 3 by omega)) (by decide)
    have a := rl2 x.t y.t
    exact ⟨_, _, rfl, by simp only [pur_tup, purs_cons, purs_nil, i1, j1, Bool.and_true], by simp only [depth_tup, depths_cons, depths_nil]; omega, by simp only [shw_tup, shws_cons, shws_nil, i3, j3]; rfl, by omega⟩
  | eith x y =>
    obtain ⟨i1, i2, i3, i4⟩ := k_facts hl x o.1
    obtain ⟨j1, j2, j3, j4⟩ := k_facts hl y o.2
    have hh' : max x.h y.h + 1 < 5 := hh
    have b1 : B x.h ≤ 500000 := Nat.le_trans (B_mono (show x.h ≤ 3 by omega)) (by decide)
    have b2 : B y.h ≤ 500000 := Nat.le_trans (B_mono (show y.h ≤ 3 by omega)) (by decide)
    have a := rl2 x.t y.t
    exact ⟨_, _, rfl, by simp only [pur_tup, purs_cons, purs_nil, i1, j1, Bool.and_true], by simp only [depth_tup, depths_cons, depths_nil]; omega, by simp only [shw_tup, shws_cons, shws_nil, i3, j3]; rfl, by omega⟩
end LAW
set_option Elab.async false
set_option linter.all false
set_option maxRecDepth 100000
set_option maxHeartbeats 8000000
/-! TLCd: the law. -/
namespace LAW
open PySem PySem.Spec PyProof.Rows L2 TL
def spLaw : TSp := fun ts S Q => ∃ ns : List Int, ts = [.fl (ns.map T.int)] ∧ ns.length ≤ 63 ∧ ∀ S', Q (.bl true) S'
theorem st_min {i j : Int} {S : Sto} {Q : T → Sto → Prop} (q : ∀ k : Int, k ≤ j → (k = i ∨ k = j) → Q (.int k) S) : oMin2 [.int i, .int j] S Q := by
  show Q (.int (if j < i then j else i)) S
  split
  · exact q j (Int.le_refl _) (.inr rfl)
  · exact q i (by omega) (.inl rfl)
theorem st_max {i j : Int} {S : Sto} {Q : T → Sto → Prop} (q : ∀ k : Int, (k = i ∨ k = j) → Q (.int k) S) : oMax2 [.int i, .int j] S Q := by
  show Q (.int (if j > i then j else i)) S
  split
  · exact q j (.inr rfl)
  · exact q i (.inl rfl)
def zT (q : Str × Nat) : T := .tup [.str q.1, .int (q.2 : Int)]
theorem pairs_z : ∀ zs : Zs, pairsT (zs.map zT) = some (zs.map fun q => (T.str q.1, T.int (q.2 : Int)))
  | [] => rfl
  | q :: zs => by
    show (pairsT (zs.map zT)).map _ = _
    rw [pairs_z zs]; rfl
theorem keys_z : ∀ zs : Zs, keysOf (zs.map fun q => (T.str q.1, T.int (q.2 : Int))) = some (rep zs)
  | [] => rfl
  | q :: zs => by
    show ((keyT (T.str q.1)).bind fun k => (keysOf (zs.map fun q => (T.str q.1, T.int (q.2 : Int)))).map fun ks => (k, _) :: ks) = _
    rw [keys_z zs]; rfl
theorem neDC {S S' : Sto} {D C p : Addr} {o : MO} (dk : Deck S D C) (hp : S p = none) : p ≠ D ∧ p ≠ C := dk.neS hp
theorem vc_law (ts : List T) (S : Sto) (Q : T → Sto → Prop) (hl : ts.length = 1) (h : spLaw ts S Q) : t_law 5 (endT Q) (startT N_law.length ts) S := by
  obtain ⟨ns, rfl, h63, q⟩ := h
  rw [show startT N_law.length [T.fl (ns.map T.int)] = [some (T.fl (ns.map T.int)), none, none, none, none, none, none, none, none, none, none, none, none, none, none] from rfl]
  unfold t_law
  refine seq_cut fun v1 hv1 => for_cut fun b1 hb1 => ?_
  try simp only [tsNx, tsSeq, tsBrk, tsCt, tsDrop, tsRet, tsRetN, tsIf, tsAsg, tgN, tgsNil, tgsCons, tgTup, tgSub, tsFor, tsWhile, tiSeq, tiRng1, tiRng2, tiZip, tb, tv, tc, tac, tan, ttup, tlst, tq, tand, tor, tnot, tife, tandV, torV, tnotV, tneg, tsl, tno, tpt, tcall, tbi, tml, tml0, tmj, tisi, tlRev, tlRng1, tdisp, tps, tlc, ttYes, bt1, btN, setsT, wipeT, endT, List.getElem?_cons_zero, List.getElem?_cons_succ, List.set_cons_zero, List.set_cons_succ]
  have elen : ∀ (Q : T → Sto → Prop), Q (.int ((ns.map T.int).length : Int)) S → oLen [.fl (ns.map T.int)] S Q := fun Q q => q
  refine elen _ ?_
  refine st_min fun k0 hk0 hk00 => st_max fun k1 hk1 => ?_
  simp only []
  refine ⟨by omega, by omega, fun i ρ' S' => ∃ a1 a2 a3 a4 a5 a6 a7 a8 a9 a10 a11 a12 a13 a14, ρ' = [some (T.fl (ns.map T.int)), a1, a2, a3, a4, a5, a6, a7, a8, a9, a10, a11, a12, a13, a14], ⟨_, _, _, _, _, _, _, _, _, _, _, _, _, _, rfl⟩, ?_⟩
  rintro i ρ' S0 ⟨a1, a2, a3, a4, a5, a6, a7, a8, a9, a10, a11, a12, a13, a14, rfl⟩
  refine ⟨trivial, ?_⟩
  cases hx : (rngT 0 k1.toNat)[i]? with
  | none =>
    simp only []
    rw [hv1]
    try simp only [tsNx, tsSeq, tsBrk, tsCt, tsDrop, tsRet, tsRetN, tsIf, tsAsg, tgN, tgsNil, tgsCons, tgTup, tgSub, tsFor, tsWhile, tiSeq, tiRng1, tiRng2, tiZip, tb, tv, tc, tac, tan, ttup, tlst, tq, tand, tor, tnot, tife, tandV, torV, tnotV, tneg, tsl, tno, tpt, tcall, tbi, tml, tml0, tmj, tisi, tlRev, tlRng1, tdisp, tps, tlc, ttYes, bt1, btN, setsT, wipeT, endT, List.getElem?_cons_zero, List.getElem?_cons_succ, List.set_cons_zero, List.set_cons_succ]
    exact q S0
  | some x =>
    obtain ⟨hi, rfl⟩ := rng_some hx
    try simp only [tsNx, tsSeq, tsBrk, tsCt, tsDrop, tsRet, tsRetN, tsIf, tsAsg, tgN, tgsNil, tgsCons, tgTup, tgSub, tsFor, tsWhile, tiSeq, tiRng1, tiRng2, tiZip, tb, tv, tc, tac, tan, ttup, tlst, tq, tand, tor, tnot, tife, tandV, torV, tnotV, tneg, tsl, tno, tpt, tcall, tbi, tml, tml0, tmj, tisi, tlRev, tlRng1, tdisp, tps, tlc, ttYes, bt1, btN, setsT, wipeT, endT, List.getElem?_cons_zero, List.getElem?_cons_succ, List.set_cons_zero, List.set_cons_succ]
    rw [hb1]
    refine ends_cut fun E hE => ?_
    -- the deck
    refine seq_cut fun v2 hv2 => ?_
    try simp only [tsNx, tsSeq, tsBrk, tsCt, tsDrop, tsRet, tsRetN, tsIf, tsAsg, tgN, tgsNil, tgsCons, tgTup, tgSub, tsFor, tsWhile, tiSeq, tiRng1, tiRng2, tiZip, tb, tv, tc, tac, tan, ttup, tlst, tq, tand, tor, tnot, tife, tandV, torV, tnotV, tneg, tsl, tno, tpt, tcall, tbi, tml, tml0, tmj, tisi, tlRev, tlRng1, tdisp, tps, tlc, ttYes, bt1, btN, setsT, wipeT, endT, List.getElem?_cons_zero, List.getElem?_cons_succ, List.set_cons_zero, List.set_cons_succ]
    try simp only [ev_t0, ev_t1, ev_t2, ev_eqs, ev_eqi, ev_intb, ev_inti, ev_add, ev_sub, ev_lt, ev_gt, ev_sl1, ev_in2, ev_lent, ev_isn, Bool.or_false, Bool.or_true, Bool.false_or, Bool.true_or, eqG_f, eqG_t, kq, Bool.not_true, Bool.not_false, if_true, if_false, ite_true, ite_false, reduceIte, s_num_num, s_num_truth, s_num_open, s_num_list, s_num_pair, s_num_either, s_num_left, s_num_right, s_num_thing, s_num_fault, s_num_worth, s_num_table, s_truth_num, s_truth_truth, s_truth_open, s_truth_list, s_truth_pair, s_truth_either, s_truth_left, s_truth_right, s_truth_thing, s_truth_fault, s_truth_worth, s_truth_table, s_open_num, s_open_truth, s_open_open, s_open_list, s_open_pair, s_open_either, s_open_left, s_open_right, s_open_thing, s_open_fault, s_open_worth, s_open_table, s_list_num, s_list_truth, s_list_open, s_list_list, s_list_pair, s_list_either, s_list_left, s_list_right, s_list_thing, s_list_fault, s_list_worth, s_list_table, s_pair_num, s_pair_truth, s_pair_open, s_pair_list, s_pair_pair, s_pair_either, s_pair_left, s_pair_right, s_pair_thing, s_pair_fault, s_pair_worth, s_pair_table, s_either_num, s_either_truth, s_either_open, s_either_list, s_either_pair, s_either_either, s_either_left, s_either_right, s_either_thing, s_either_fault, s_either_worth, s_either_table, s_left_num, s_left_truth, s_left_open, s_left_list, s_left_pair, s_left_either, s_left_left, s_left_right, s_left_thing, s_left_fault, s_left_worth, s_left_table, s_right_num, s_right_truth, s_right_open, s_right_list, s_right_pair, s_right_either, s_right_left, s_right_right, s_right_thing, s_right_fault, s_right_worth, s_right_table, s_thing_num, s_thing_truth, s_thing_open, s_thing_list, s_thing_pair, s_thing_either, s_thing_left, s_thing_right, s_thing_thing, s_thing_fault, s_thing_worth, s_thing_table, s_fault_num, s_fault_truth, s_fault_open, s_fault_list, s_fault_pair, s_fault_either, s_fault_left, s_fault_right, s_fault_thing, s_fault_fault, s_fault_worth, s_fault_table, s_worth_num, s_worth_truth, s_worth_open, s_worth_list, s_worth_pair, s_worth_either, s_worth_left, s_worth_right, s_worth_thing, s_worth_fault, s_worth_worth, s_worth_table, s_table_num, s_table_truth, s_table_open, s_table_list, s_table_pair, s_table_either, s_table_left, s_table_right, s_table_thing, s_table_fault, s_table_worth, s_table_table]
    refine st_slf (nw fun p1 S1 hp1 hpp1 x1 => st_slf (nw fun p2 S2 hp2 hpp2 x2 => ?_))
    obtain ⟨m1, e1, l1⟩ := cut_ints ns (some (0 + (i : Int))) (some (0 + (i : Int) + 1))
    obtain ⟨m2, e2, l2⟩ := cut_ints ns none (some (0 + (i : Int)))
    rw [e1] at hpp1
    rw [e2] at hpp2
    refine st_addl (x2 _ _ hpp1) hpp2 (z4000 (by rw [List.length_map, List.length_map]; omega)) (nw fun p3 S3 hp3 hpp3 x3 => ?_)
    try simp only [ev_t0, ev_t1, ev_t2, ev_eqs, ev_eqi, ev_intb, ev_inti, ev_add, ev_sub, ev_lt, ev_gt, ev_sl1, ev_in2, ev_lent, ev_isn, Bool.or_false, Bool.or_true, Bool.false_or, Bool.true_or, eqG_f, eqG_t, kq, Bool.not_true, Bool.not_false, if_true, if_false, ite_true, ite_false, reduceIte, s_num_num, s_num_truth, s_num_open, s_num_list, s_num_pair, s_num_either, s_num_left, s_num_right, s_num_thing, s_num_fault, s_num_worth, s_num_table, s_truth_num, s_truth_truth, s_truth_open, s_truth_list, s_truth_pair, s_truth_either, s_truth_left, s_truth_right, s_truth_thing, s_truth_fault, s_truth_worth, s_truth_table, s_open_num, s_open_truth, s_open_open, s_open_list, s_open_pair, s_open_either, s_open_left, s_open_right, s_open_thing, s_open_fault, s_open_worth, s_open_table, s_list_num, s_list_truth, s_list_open, s_list_list, s_list_pair, s_list_either, s_list_left, s_list_right, s_list_thing, s_list_fault, s_list_worth, s_list_table, s_pair_num, s_pair_truth, s_pair_open, s_pair_list, s_pair_pair, s_pair_either, s_pair_left, s_pair_right, s_pair_thing, s_pair_fault, s_pair_worth, s_pair_table, s_either_num, s_either_truth, s_either_open, s_either_list, s_either_pair, s_either_either, s_either_left, s_either_right, s_either_thing, s_either_fault, s_either_worth, s_either_table, s_left_num, s_left_truth, s_left_open, s_left_list, s_left_pair, s_left_either, s_left_left, s_left_right, s_left_thing, s_left_fault, s_left_worth, s_left_table, s_right_num, s_right_truth, s_right_open, s_right_list, s_right_pair, s_right_either, s_right_left, s_right_right, s_right_thing, s_right_fault, s_right_worth, s_right_table, s_thing_num, s_thing_truth, s_thing_open, s_thing_list, s_thing_pair, s_thing_either, s_thing_left, s_thing_right, s_thing_thing, s_thing_fault, s_thing_worth, s_thing_table, s_fault_num, s_fault_truth, s_fault_open, s_fault_list, s_fault_pair, s_fault_either, s_fault_left, s_fault_right, s_fault_thing, s_fault_fault, s_fault_worth, s_fault_table, s_worth_num, s_worth_truth, s_worth_open, s_worth_list, s_worth_pair, s_worth_either, s_worth_left, s_worth_right, s_worth_thing, s_worth_fault, s_worth_worth, s_worth_table, s_table_num, s_table_truth, s_table_open, s_table_list, s_table_pair, s_table_either, s_table_left, s_table_right, s_table_thing, s_table_fault, s_table_worth, s_table_table]
    refine st_slf (nw fun p4 S4 hp4 hpp4 x4 => ?_)
    obtain ⟨m3, e3, l3⟩ := cut_ints ns (some (0 + (i : Int) + 1)) none
    rw [e3] at hpp4
    rw [← List.map_append] at hpp3
    refine st_addl (x4 _ _ hpp3) hpp4 (z4000 (by rw [List.length_map, List.length_map, List.length_append]; omega)) (nw fun p5 S5 hp5 hpp5 x5 => ?_)
    rw [← List.map_append] at hpp5
    refine ⟨rfl, _, p5, rfl, hpp5, fun D C S6 hD hC dk x6 => ?_⟩
    clear hpp5 x5 hp5 hpp4 x4 hp4 hpp3 x3 hp3 hpp2 x2 hp2 hpp1 x1 hp1
    -- far, faults
    rw [hv2]
    refine seq_cut fun v3 hv3 => ?_
    try simp only [tsNx, tsSeq, tsBrk, tsCt, tsDrop, tsRet, tsRetN, tsIf, tsAsg, tgN, tgsNil, tgsCons, tgTup, tgSub, tsFor, tsWhile, tiSeq, tiRng1, tiRng2, tiZip, tb, tv, tc, tac, tan, ttup, tlst, tq, tand, tor, tnot, tife, tandV, torV, tnotV, tneg, tsl, tno, tpt, tcall, tbi, tml, tml0, tmj, tisi, tlRev, tlRng1, tdisp, tps, tlc, ttYes, bt1, btN, setsT, wipeT, endT, List.getElem?_cons_zero, List.getElem?_cons_succ, List.set_cons_zero, List.set_cons_succ]
    refine ⟨rfl, D, C, 8, rfl, dk, by omega, by omega, fun w3 S7 _ _ f7 => ?_⟩
    try simp only [ev_t0, ev_t1, ev_t2, ev_eqs, ev_eqi, ev_intb, ev_inti, ev_add, ev_sub, ev_lt, ev_gt, ev_sl1, ev_in2, ev_lent, ev_isn, Bool.or_false, Bool.or_true, Bool.false_or, Bool.true_or, eqG_f, eqG_t, kq, Bool.not_true, Bool.not_false, if_true, if_false, ite_true, ite_false, reduceIte, s_num_num, s_num_truth, s_num_open, s_num_list, s_num_pair, s_num_either, s_num_left, s_num_right, s_num_thing, s_num_fault, s_num_worth, s_num_table, s_truth_num, s_truth_truth, s_truth_open, s_truth_list, s_truth_pair, s_truth_either, s_truth_left, s_truth_right, s_truth_thing, s_truth_fault, s_truth_worth, s_truth_table, s_open_num, s_open_truth, s_open_open, s_open_list, s_open_pair, s_open_either, s_open_left, s_open_right, s_open_thing, s_open_fault, s_open_worth, s_open_table, s_list_num, s_list_truth, s_list_open, s_list_list, s_list_pair, s_list_either, s_list_left, s_list_right, s_list_thing, s_list_fault, s_list_worth, s_list_table, s_pair_num, s_pair_truth, s_pair_open, s_pair_list, s_pair_pair, s_pair_either, s_pair_left, s_pair_right, s_pair_thing, s_pair_fault, s_pair_worth, s_pair_table, s_either_num, s_either_truth, s_either_open, s_either_list, s_either_pair, s_either_either, s_either_left, s_either_right, s_either_thing, s_either_fault, s_either_worth, s_either_table, s_left_num, s_left_truth, s_left_open, s_left_list, s_left_pair, s_left_either, s_left_left, s_left_right, s_left_thing, s_left_fault, s_left_worth, s_left_table, s_right_num, s_right_truth, s_right_open, s_right_list, s_right_pair, s_right_either, s_right_left, s_right_right, s_right_thing, s_right_fault, s_right_worth, s_right_table, s_thing_num, s_thing_truth, s_thing_open, s_thing_list, s_thing_pair, s_thing_either, s_thing_left, s_thing_right, s_thing_thing, s_thing_fault, s_thing_worth, s_thing_table, s_fault_num, s_fault_truth, s_fault_open, s_fault_list, s_fault_pair, s_fault_either, s_fault_left, s_fault_right, s_fault_thing, s_fault_fault, s_fault_worth, s_fault_table, s_worth_num, s_worth_truth, s_worth_open, s_worth_list, s_worth_pair, s_worth_either, s_worth_left, s_worth_right, s_worth_thing, s_worth_fault, s_worth_worth, s_worth_table, s_table_num, s_table_truth, s_table_open, s_table_list, s_table_pair, s_table_either, s_table_left, s_table_right, s_table_thing, s_table_fault, s_table_worth, s_table_table]
    rw [hv3]
    refine seq_cut fun v4 hv4 => ?_
    try simp only [tsNx, tsSeq, tsBrk, tsCt, tsDrop, tsRet, tsRetN, tsIf, tsAsg, tgN, tgsNil, tgsCons, tgTup, tgSub, tsFor, tsWhile, tiSeq, tiRng1, tiRng2, tiZip, tb, tv, tc, tac, tan, ttup, tlst, tq, tand, tor, tnot, tife, tandV, torV, tnotV, tneg, tsl, tno, tpt, tcall, tbi, tml, tml0, tmj, tisi, tlRev, tlRng1, tdisp, tps, tlc, ttYes, bt1, btN, setsT, wipeT, endT, List.getElem?_cons_zero, List.getElem?_cons_succ, List.set_cons_zero, List.set_cons_succ]
    refine ⟨rfl, D, C, 2, rfl, f7.dk, by omega, by omega, fun fa S8 _ _ f8 => ?_⟩
    -- names
    rw [hv4]
    refine seq_cut fun v5 hv5 => ?_
    try simp only [tsNx, tsSeq, tsBrk, tsCt, tsDrop, tsRet, tsRetN, tsIf, tsAsg, tgN, tgsNil, tgsCons, tgTup, tgSub, tsFor, tsWhile, tiSeq, tiRng1, tiRng2, tiZip, tb, tv, tc, tac, tan, ttup, tlst, tq, tand, tor, tnot, tife, tandV, torV, tnotV, tneg, tsl, tno, tpt, tcall, tbi, tml, tml0, tmj, tisi, tlRev, tlRng1, tdisp, tps, tlc, ttYes, bt1, btN, setsT, wipeT, endT, List.getElem?_cons_zero, List.getElem?_cons_succ, List.set_cons_zero, List.set_cons_succ]
    refine ⟨rfl, D, C, 4, rfl, f8.dk, by omega, by omega, fun w5 S9 w50 w51 f9 => ?_⟩
    try simp only [ev_t0, ev_t1, ev_t2, ev_eqs, ev_eqi, ev_intb, ev_inti, ev_add, ev_sub, ev_lt, ev_gt, ev_sl1, ev_in2, ev_lent, ev_isn, Bool.or_false, Bool.or_true, Bool.false_or, Bool.true_or, eqG_f, eqG_t, kq, Bool.not_true, Bool.not_false, if_true, if_false, ite_true, ite_false, reduceIte, s_num_num, s_num_truth, s_num_open, s_num_list, s_num_pair, s_num_either, s_num_left, s_num_right, s_num_thing, s_num_fault, s_num_worth, s_num_table, s_truth_num, s_truth_truth, s_truth_open, s_truth_list, s_truth_pair, s_truth_either, s_truth_left, s_truth_right, s_truth_thing, s_truth_fault, s_truth_worth, s_truth_table, s_open_num, s_open_truth, s_open_open, s_open_list, s_open_pair, s_open_either, s_open_left, s_open_right, s_open_thing, s_open_fault, s_open_worth, s_open_table, s_list_num, s_list_truth, s_list_open, s_list_list, s_list_pair, s_list_either, s_list_left, s_list_right, s_list_thing, s_list_fault, s_list_worth, s_list_table, s_pair_num, s_pair_truth, s_pair_open, s_pair_list, s_pair_pair, s_pair_either, s_pair_left, s_pair_right, s_pair_thing, s_pair_fault, s_pair_worth, s_pair_table, s_either_num, s_either_truth, s_either_open, s_either_list, s_either_pair, s_either_either, s_either_left, s_either_right, s_either_thing, s_either_fault, s_either_worth, s_either_table, s_left_num, s_left_truth, s_left_open, s_left_list, s_left_pair, s_left_either, s_left_left, s_left_right, s_left_thing, s_left_fault, s_left_worth, s_left_table, s_right_num, s_right_truth, s_right_open, s_right_list, s_right_pair, s_right_either, s_right_left, s_right_right, s_right_thing, s_right_fault, s_right_worth, s_right_table, s_thing_num, s_thing_truth, s_thing_open, s_thing_list, s_thing_pair, s_thing_either, s_thing_left, s_thing_right, s_thing_thing, s_thing_fault, s_thing_worth, s_thing_table, s_fault_num, s_fault_truth, s_fault_open, s_fault_list, s_fault_pair, s_fault_either, s_fault_left, s_fault_right, s_fault_thing, s_fault_fault, s_fault_worth, s_fault_table, s_worth_num, s_worth_truth, s_worth_open, s_worth_list, s_worth_pair, s_worth_either, s_worth_left, s_worth_right, s_worth_thing, s_worth_fault, s_worth_worth, s_worth_table, s_table_num, s_table_truth, s_table_open, s_table_list, s_table_pair, s_table_either, s_table_left, s_table_right, s_table_thing, s_table_fault, s_table_worth, s_table_table]
    refine ⟨rfl, D, C, _, rfl, f9.dk, by omega, by omega, fun O opens S10 hol hlow f10 hO hOO => ?_⟩
    obtain ⟨O1, O2⟩ := f9.dk.neS hO
    have ol1 : 1 ≤ opens.length := by omega
    have ol4 : opens.length ≤ 4 := by omega
    have dk10 := f10.dk
    clear f10 f9 f8 f7 dk x6 hD hC hO
    -- sizes
    rw [hv5]
    refine seq_cut fun v6 hv6 => ?_
    try simp only [tsNx, tsSeq, tsBrk, tsCt, tsDrop, tsRet, tsRetN, tsIf, tsAsg, tgN, tgsNil, tgsCons, tgTup, tgSub, tsFor, tsWhile, tiSeq, tiRng1, tiRng2, tiZip, tb, tv, tc, tac, tan, ttup, tlst, tq, tand, tor, tnot, tife, tandV, torV, tnotV, tneg, tsl, tno, tpt, tcall, tbi, tml, tml0, tmj, tisi, tlRev, tlRng1, tdisp, tps, tlc, ttYes, bt1, btN, setsT, wipeT, endT, List.getElem?_cons_zero, List.getElem?_cons_succ, List.set_cons_zero, List.set_cons_succ]
    simp only [lstAt_of hOO]
    intro L hL
    have hLO : L ≠ O := fun z => by rw [z, hOO] at hL; cases hL
    refine ⟨fun j acc S' => j ≤ opens.length ∧ (∃ zs : Zs, acc = zs.map zT ∧ zs.map (·.1) = opens.take j ∧ ∀ p ∈ zs, 1 ≤ p.2 ∧ p.2 ≤ 12) ∧ S' L = some (.lst acc) ∧ S' O = some (.lst (opens.map T.str)) ∧ Fr D C S10 S', fun T0 u => ?_, ?_⟩
    · exact ⟨Nat.zero_le _, ⟨[], rfl, by simp, (by intro p hp; cases hp)⟩, u.at_, u.get (Ne.symm hLO) hOO, (Fr.refl dk10).ex fun a o e => u.get (nn hL e) e⟩
    rintro j acc S11 ⟨hj, ⟨zs, rfl, hzk, hzb⟩, hLL, hOO11, f11⟩
    refine ⟨hLL, lstAt_of hOO11, ?_⟩
    cases hy : (opens.map T.str)[j]? with
    | some y =>
      rw [List.getElem?_map] at hy
      cases hw : opens[j]? with
      | none => rw [hw] at hy; cases hy
      | some nm =>
        rw [hw] at hy
        have hy : T.str nm = y := by simpa using hy
        subst hy
        obtain ⟨hjl, hjw⟩ := List.getElem?_eq_some_iff.mp hw
        try simp only [tsNx, tsSeq, tsBrk, tsCt, tsDrop, tsRet, tsRetN, tsIf, tsAsg, tgN, tgsNil, tgsCons, tgTup, tgSub, tsFor, tsWhile, tiSeq, tiRng1, tiRng2, tiZip, tb, tv, tc, tac, tan, ttup, tlst, tq, tand, tor, tnot, tife, tandV, torV, tnotV, tneg, tsl, tno, tpt, tcall, tbi, tml, tml0, tmj, tisi, tlRev, tlRng1, tdisp, tps, tlc, ttYes, bt1, btN, setsT, wipeT, endT, List.getElem?_cons_zero, List.getElem?_cons_succ, List.set_cons_zero, List.set_cons_succ]
        refine ⟨rfl, D, C, 3, rfl, f11.dk, by omega, by omega, fun w S12 w0 w1 f12 => ?_⟩
        try simp only [ev_t0, ev_t1, ev_t2, ev_eqs, ev_eqi, ev_intb, ev_inti, ev_add, ev_sub, ev_lt, ev_gt, ev_sl1, ev_in2, ev_lent, ev_isn, Bool.or_false, Bool.or_true, Bool.false_or, Bool.true_or, eqG_f, eqG_t, kq, Bool.not_true, Bool.not_false, if_true, if_false, ite_true, ite_false, reduceIte, s_num_num, s_num_truth, s_num_open, s_num_list, s_num_pair, s_num_either, s_num_left, s_num_right, s_num_thing, s_num_fault, s_num_worth, s_num_table, s_truth_num, s_truth_truth, s_truth_open, s_truth_list, s_truth_pair, s_truth_either, s_truth_left, s_truth_right, s_truth_thing, s_truth_fault, s_truth_worth, s_truth_table, s_open_num, s_open_truth, s_open_open, s_open_list, s_open_pair, s_open_either, s_open_left, s_open_right, s_open_thing, s_open_fault, s_open_worth, s_open_table, s_list_num, s_list_truth, s_list_open, s_list_list, s_list_pair, s_list_either, s_list_left, s_list_right, s_list_thing, s_list_fault, s_list_worth, s_list_table, s_pair_num, s_pair_truth, s_pair_open, s_pair_list, s_pair_pair, s_pair_either, s_pair_left, s_pair_right, s_pair_thing, s_pair_fault, s_pair_worth, s_pair_table, s_either_num, s_either_truth, s_either_open, s_either_list, s_either_pair, s_either_either, s_either_left, s_either_right, s_either_thing, s_either_fault, s_either_worth, s_either_table, s_left_num, s_left_truth, s_left_open, s_left_list, s_left_pair, s_left_either, s_left_left, s_left_right, s_left_thing, s_left_fault, s_left_worth, s_left_table, s_right_num, s_right_truth, s_right_open, s_right_list, s_right_pair, s_right_either, s_right_left, s_right_right, s_right_thing, s_right_fault, s_right_worth, s_right_table, s_thing_num, s_thing_truth, s_thing_open, s_thing_list, s_thing_pair, s_thing_either, s_thing_left, s_thing_right, s_thing_thing, s_thing_fault, s_thing_worth, s_thing_table, s_fault_num, s_fault_truth, s_fault_open, s_fault_list, s_fault_pair, s_fault_either, s_fault_left, s_fault_right, s_fault_thing, s_fault_fault, s_fault_worth, s_fault_table, s_worth_num, s_worth_truth, s_worth_open, s_worth_list, s_worth_pair, s_worth_either, s_worth_left, s_worth_right, s_worth_thing, s_worth_fault, s_worth_worth, s_worth_table, s_table_num, s_table_truth, s_table_open, s_table_list, s_table_pair, s_table_either, s_table_left, s_table_right, s_table_thing, s_table_fault, s_table_worth, s_table_table]
        obtain ⟨L1, L2⟩ := dk10.neS hL
        refine ⟨z4000 (by simp), f12.kp _ _ L1 L2 hLL, by rw [List.length_map]; have := congrArg List.length hzk; rw [List.length_map, List.length_take] at this; exact Nat.lt_of_lt_of_le (show zs.length < 100 by omega) (by decide), fun S13 u => ?_⟩
        refine ⟨hjl, ⟨zs ++ [(nm, (1 + w).toNat)], ?_, ?_, ?_⟩, u.at_, u.get (Ne.symm hLO) (f12.kp _ _ O1 O2 hOO11), fr_upd dk10 (f11.trans f12) hL u⟩
        · rw [List.map_append]
          have : ((1 + w).toNat : Int) = 1 + w := by omega
          show _ = zs.map zT ++ [T.tup [.str nm, .int ((1 + w).toNat : Int)]]
          rw [this]
        · rw [List.map_append, hzk, List.take_succ_eq_append_getElem hjl, hjw]; rfl
        · intro p hp
          rcases List.mem_append.mp hp with h | h
          · exact hzb p h
          · rw [List.mem_singleton.mp h]; show 1 ≤ (1 + w).toNat ∧ (1 + w).toNat ≤ 12; omega
    | none =>
      have hlen := List.getElem?_eq_none_iff.mp hy
      rw [List.length_map] at hlen
      rw [List.take_of_length_le hlen] at hzk
      have hzl : zs.length = opens.length := by have := congrArg List.length hzk; rwa [List.length_map] at this
      try simp only [tsNx, tsSeq, tsBrk, tsCt, tsDrop, tsRet, tsRetN, tsIf, tsAsg, tgN, tgsNil, tgsCons, tgTup, tgSub, tsFor, tsWhile, tiSeq, tiRng1, tiRng2, tiZip, tb, tv, tc, tac, tan, ttup, tlst, tq, tand, tor, tnot, tife, tandV, torV, tnotV, tneg, tsl, tno, tpt, tcall, tbi, tml, tml0, tmj, tisi, tlRev, tlRng1, tdisp, tps, tlc, ttYes, bt1, btN, setsT, wipeT, endT, List.getElem?_cons_zero, List.getElem?_cons_succ, List.set_cons_zero, List.set_cons_succ]
      simp only [oDict, sqT?, lstAt_of hLL, Option.map_some, Option.bind_some, pairs_z]
      refine ⟨z4000 (by rw [List.length_map]; omega), .inl ⟨_, keys_z zs, nw fun Z S12 hZ hZZ x12 => ?_⟩⟩
      rw [show mergeT [] (rep zs) = rep (mergeZ [] zs) from rep_merge zs []] at hZZ
      have f12 := f11.ex x12
      have hOO12 := x12 _ _ hOO11
      have hOZ : O ≠ Z := fun z => by rw [← z, hOO11] at hZ; cases hZ
      obtain ⟨Z1, Z2⟩ := f11.dk.neS hZ
      have zok : ZOk (mergeZ [] zs) := mergeZ_ok zs [] ⟨by simp, by intro p hp; cases hp⟩ hzb
      have zkeys : ∀ y, y ∈ (mergeZ [] zs).map (·.1) ↔ y ∈ opens := fun y => by rw [mergeZ_keys, hzk]; simp
      have zlen : (mergeZ [] zs).length ≤ 8 := by have := mergeZ_len zs []; simp at this; omega
      generalize mergeZ [] zs = z0 at *
      have dk12 := f12.dk
      clear hLL hOO11 f11 f12 x12 hy
      rw [hv6]
      refine seq_cut fun v7 hv7 => ?_
      -- behind the sizes
      have rest : ∀ (z1 : Zs) (T0 : Sto), ZOk z1 → (∀ y, y ∈ z1.map (·.1) ↔ y ∈ opens) → z1.length ≤ 8 → T0 Z = some (.dk (rep z1)) → T0 O = some (.lst (opens.map T.str)) → Deck T0 D C →
          v7 E [some (T.fl (ns.map T.int)), some (.int (0 + (i : Int))), some (.adr D), some (.bl (w3 == 5)), some (.int fa), some (.adr O), some (.adr Z), a7, a8, a9, a10, a11, a12, a13, a14] T0 := by
        clear dk12 hOO12 hZZ zok zkeys zlen
        intro z1 T0 zok zkeys zlen hZZ hOO dk0
        have zsz := sizes_of zok hZZ
        rw [hv7]
        refine seq_cut fun v8 hv8 => ?_
        try simp only [tsNx, tsSeq, tsBrk, tsCt, tsDrop, tsRet, tsRetN, tsIf, tsAsg, tgN, tgsNil, tgsCons, tgTup, tgSub, tsFor, tsWhile, tiSeq, tiRng1, tiRng2, tiZip, tb, tv, tc, tac, tan, ttup, tlst, tq, tand, tor, tnot, tife, tandV, torV, tnotV, tneg, tsl, tno, tpt, tcall, tbi, tml, tml0, tmj, tisi, tlRev, tlRng1, tdisp, tps, tlc, ttYes, bt1, btN, setsT, wipeT, endT, List.getElem?_cons_zero, List.getElem?_cons_succ, List.set_cons_zero, List.set_cons_succ]
        refine ⟨rfl, D, C, Z, szZ z1, z1.map (·.1), rep z1, fa, rfl, dk0, Z1, Z2, hZZ, rep_keys z1, zok.nd, by rw [List.length_map]; exact zlen, fun x hx => hlow x ((zkeys x).mp hx), zsz, fun rows T1 rok rsz g1 => ?_⟩
        rw [hv8]
        refine seq_cut fun v9 hv9 => ?_
        try simp only [mapsT, tsNx, tsSeq, tsBrk, tsCt, tsDrop, tsRet, tsRetN, tsIf, tsAsg, tgN, tgsNil, tgsCons, tgTup, tgSub, tsFor, tsWhile, tiSeq, tiRng1, tiRng2, tiZip, tb, tv, tc, tac, tan, ttup, tlst, tq, tand, tor, tnot, tife, tandV, torV, tnotV, tneg, tsl, tno, tpt, tcall, tbi, tml, tml0, tmj, tisi, tlRev, tlRng1, tdisp, tps, tlc, ttYes, bt1, btN, setsT, wipeT, endT, List.getElem?_cons_zero, List.getElem?_cons_succ, List.set_cons_zero, List.set_cons_succ]
        have hZ1 := g1.kp _ _ Z1 Z2 hZZ
        have hO1 := g1.kp _ _ O1 O2 hOO
        have dk1 := g1.dk
        intro M hM
        have hMD := dk1.neS hM
        have hMZ : M ≠ Z := fun z => by rw [z, hZ1] at hM; cases hM
        have hMO : M ≠ O := fun z => by rw [z, hO1] at hM; cases hM
        refine ⟨fun j acc S' => j ≤ rows.length ∧ acc = ((same rows).map mapT).take j ∧ S' M = some (.lst acc) ∧ S' Z = some (.dk (rep z1)) ∧ S' O = some (.lst (opens.map T.str)) ∧ Deck S' D C, fun U0 u => ?_, ?_⟩
        · obtain ⟨ne, b1, b2, b3, b4, b5, b6⟩ := dk1
          exact ⟨Nat.zero_le _, by simp, u.at_, u.get (Ne.symm hMZ) hZ1, u.get (Ne.symm hMO) hO1, ne, b1, b2, b3, u.get (nn hM b4) b4, u.get (nn hM b5) b5, b6⟩
        rintro j acc T2 ⟨hj, rfl, hMM, hZ2, hO2, dk2⟩
        refine ⟨hMM, trivial, ?_⟩
        have slen : ((same rows).map mapT).length = rows.length := by rw [List.length_map]; unfold same; rw [List.length_map]
        cases hy : (rows.map mapT)[j]? with
        | some y =>
          rw [List.getElem?_map] at hy
          cases hr : rows[j]? with
          | none => rw [hr] at hy; cases hy
          | some r =>
            rw [hr] at hy
            have hy : mapT r = y := by simpa using hy
            subst hy
            obtain ⟨hjl, hjr⟩ := List.getElem?_eq_some_iff.mp hr
            try simp only [mapT, tsNx, tsSeq, tsBrk, tsCt, tsDrop, tsRet, tsRetN, tsIf, tsAsg, tgN, tgsNil, tgsCons, tgTup, tgSub, tsFor, tsWhile, tiSeq, tiRng1, tiRng2, tiZip, tb, tv, tc, tac, tan, ttup, tlst, tq, tand, tor, tnot, tife, tandV, torV, tnotV, tneg, tsl, tno, tpt, tcall, tbi, tml, tml0, tmj, tisi, tlRev, tlRng1, tdisp, tps, tlc, ttYes, bt1, btN, setsT, wipeT, endT, List.getElem?_cons_zero, List.getElem?_cons_succ, List.set_cons_zero, List.set_cons_succ]
            try simp only [ev_t0, ev_t1, ev_t2, ev_eqs, ev_eqi, ev_intb, ev_inti, ev_add, ev_sub, ev_lt, ev_gt, ev_sl1, ev_in2, ev_lent, ev_isn, Bool.or_false, Bool.or_true, Bool.false_or, Bool.true_or, eqG_f, eqG_t, kq, Bool.not_true, Bool.not_false, if_true, if_false, ite_true, ite_false, reduceIte, s_num_num, s_num_truth, s_num_open, s_num_list, s_num_pair, s_num_either, s_num_left, s_num_right, s_num_thing, s_num_fault, s_num_worth, s_num_table, s_truth_num, s_truth_truth, s_truth_open, s_truth_list, s_truth_pair, s_truth_either, s_truth_left, s_truth_right, s_truth_thing, s_truth_fault, s_truth_worth, s_truth_table, s_open_num, s_open_truth, s_open_open, s_open_list, s_open_pair, s_open_either, s_open_left, s_open_right, s_open_thing, s_open_fault, s_open_worth, s_open_table, s_list_num, s_list_truth, s_list_open, s_list_list, s_list_pair, s_list_either, s_list_left, s_list_right, s_list_thing, s_list_fault, s_list_worth, s_list_table, s_pair_num, s_pair_truth, s_pair_open, s_pair_list, s_pair_pair, s_pair_either, s_pair_left, s_pair_right, s_pair_thing, s_pair_fault, s_pair_worth, s_pair_table, s_either_num, s_either_truth, s_either_open, s_either_list, s_either_pair, s_either_either, s_either_left, s_either_right, s_either_thing, s_either_fault, s_either_worth, s_either_table, s_left_num, s_left_truth, s_left_open, s_left_list, s_left_pair, s_left_either, s_left_left, s_left_right, s_left_thing, s_left_fault, s_left_worth, s_left_table, s_right_num, s_right_truth, s_right_open, s_right_list, s_right_pair, s_right_either, s_right_left, s_right_right, s_right_thing, s_right_fault, s_right_worth, s_right_table, s_thing_num, s_thing_truth, s_thing_open, s_thing_list, s_thing_pair, s_thing_either, s_thing_left, s_thing_right, s_thing_thing, s_thing_fault, s_thing_worth, s_thing_table, s_fault_num, s_fault_truth, s_fault_open, s_fault_list, s_fault_pair, s_fault_either, s_fault_left, s_fault_right, s_fault_thing, s_fault_fault, s_fault_worth, s_fault_table, s_worth_num, s_worth_truth, s_worth_open, s_worth_list, s_worth_pair, s_worth_either, s_worth_left, s_worth_right, s_worth_thing, s_worth_fault, s_worth_worth, s_worth_table, s_table_num, s_table_truth, s_table_open, s_table_list, s_table_pair, s_table_either, s_table_left, s_table_right, s_table_thing, s_table_fault, s_table_worth, s_table_table]
            intro R hR
            have hRD := dk2.neS hR
            have hRZ : R ≠ Z := fun z => by rw [z, hZ2] at hR; cases hR
            have hRO : R ≠ O := fun z => by rw [z, hO2] at hR; cases hR
            have hRM : R ≠ M := fun z => by rw [z, hMM] at hR; cases hR
            have r12 := (rok.sz r (List.mem_of_getElem? hr)).2.1
            refine ⟨fun k acc S' => k ≤ r.2.length ∧ acc = (rowsT r.1 0 (idr r.2.length)).take k ∧ S' R = some (.lst acc) ∧ S' M = some (.lst (((same rows).map mapT).take j)) ∧ S' Z = some (.dk (rep z1)) ∧ S' O = some (.lst (opens.map T.str)) ∧ Deck S' D C, fun U0 u => ?_, ?_⟩
            · obtain ⟨ne, b1, b2, b3, b4, b5, b6⟩ := dk2
              exact ⟨Nat.zero_le _, by simp, u.at_, u.get (Ne.symm hRM) hMM, u.get (Ne.symm hRZ) hZ2, u.get (Ne.symm hRO) hO2, ne, b1, b2, b3, u.get (nn hR b4) b4, u.get (nn hR b5) b5, b6⟩
            rintro k acc T3 ⟨hk, rfl, hRR, hMM3, hZ3, hO3, dk3⟩
            refine ⟨hRR, trivial, ?_⟩
            have ilen : (rowsT r.1 0 (idr r.2.length)).length = r.2.length := by rw [rowsT_len, idr_len]
            cases hz : (rowsT r.1 0 r.2)[k]? with
            | some z =>
              obtain ⟨hkl, _⟩ := List.getElem?_eq_some_iff.mp hz
              rw [rowsT_len] at hkl
              rw [rows_at r.1 r.2 0 k r.2[k] (List.getElem?_eq_getElem hkl), Nat.zero_add] at hz
              cases hz
              try simp only [tsNx, tsSeq, tsBrk, tsCt, tsDrop, tsRet, tsRetN, tsIf, tsAsg, tgN, tgsNil, tgsCons, tgTup, tgSub, tsFor, tsWhile, tiSeq, tiRng1, tiRng2, tiZip, tb, tv, tc, tac, tan, ttup, tlst, tq, tand, tor, tnot, tife, tandV, torV, tnotV, tneg, tsl, tno, tpt, tcall, tbi, tml, tml0, tmj, tisi, tlRev, tlRng1, tdisp, tps, tlc, ttYes, bt1, btN, setsT, wipeT, endT, List.getElem?_cons_zero, List.getElem?_cons_succ, List.set_cons_zero, List.set_cons_succ]
              try simp only [ev_t0, ev_t1, ev_t2, ev_eqs, ev_eqi, ev_intb, ev_inti, ev_add, ev_sub, ev_lt, ev_gt, ev_sl1, ev_in2, ev_lent, ev_isn, Bool.or_false, Bool.or_true, Bool.false_or, Bool.true_or, eqG_f, eqG_t, kq, Bool.not_true, Bool.not_false, if_true, if_false, ite_true, ite_false, reduceIte, s_num_num, s_num_truth, s_num_open, s_num_list, s_num_pair, s_num_either, s_num_left, s_num_right, s_num_thing, s_num_fault, s_num_worth, s_num_table, s_truth_num, s_truth_truth, s_truth_open, s_truth_list, s_truth_pair, s_truth_either, s_truth_left, s_truth_right, s_truth_thing, s_truth_fault, s_truth_worth, s_truth_table, s_open_num, s_open_truth, s_open_open, s_open_list, s_open_pair, s_open_either, s_open_left, s_open_right, s_open_thing, s_open_fault, s_open_worth, s_open_table, s_list_num, s_list_truth, s_list_open, s_list_list, s_list_pair, s_list_either, s_list_left, s_list_right, s_list_thing, s_list_fault, s_list_worth, s_list_table, s_pair_num, s_pair_truth, s_pair_open, s_pair_list, s_pair_pair, s_pair_either, s_pair_left, s_pair_right, s_pair_thing, s_pair_fault, s_pair_worth, s_pair_table, s_either_num, s_either_truth, s_either_open, s_either_list, s_either_pair, s_either_either, s_either_left, s_either_right, s_either_thing, s_either_fault, s_either_worth, s_either_table, s_left_num, s_left_truth, s_left_open, s_left_list, s_left_pair, s_left_either, s_left_left, s_left_right, s_left_thing, s_left_fault, s_left_worth, s_left_table, s_right_num, s_right_truth, s_right_open, s_right_list, s_right_pair, s_right_either, s_right_left, s_right_right, s_right_thing, s_right_fault, s_right_worth, s_right_table, s_thing_num, s_thing_truth, s_thing_open, s_thing_list, s_thing_pair, s_thing_either, s_thing_left, s_thing_right, s_thing_thing, s_thing_fault, s_thing_worth, s_thing_table, s_fault_num, s_fault_truth, s_fault_open, s_fault_list, s_fault_pair, s_fault_either, s_fault_left, s_fault_right, s_fault_thing, s_fault_fault, s_fault_worth, s_fault_table, s_worth_num, s_worth_truth, s_worth_open, s_worth_list, s_worth_pair, s_worth_either, s_worth_left, s_worth_right, s_worth_thing, s_worth_fault, s_worth_worth, s_worth_table, s_table_num, s_table_truth, s_table_open, s_table_list, s_table_pair, s_table_either, s_table_left, s_table_right, s_table_thing, s_table_fault, s_table_worth, s_table_table]
              refine ⟨z4000 (by simp), hRR, by rw [List.length_take]; exact Nat.lt_of_lt_of_le (show min k _ < 100 by omega) (by decide), fun U1 u => ?_⟩
              have hi2 := rows_at r.1 (idr r.2.length) 0 k (some k) (idr_at hkl)
              rw [Nat.zero_add] at hi2
              refine ⟨hkl, ?_, u.at_, u.get (Ne.symm hRM) hMM3, u.get (Ne.symm hRZ) hZ3, u.get (Ne.symm hRO) hO3, ?_⟩
              · rw [List.take_succ, hi2]; rfl
              · obtain ⟨ne, b1, b2, b3, b4, b5, b6⟩ := dk3
                exact ⟨ne, b1, b2, b3, u.get (Ne.symm hRD.1) b4, u.get (Ne.symm hRD.2) b5, b6⟩
            | none =>
              have hkl := List.getElem?_eq_none_iff.mp hz
              rw [rowsT_len] at hkl
              have etk : (rowsT r.1 0 (idr r.2.length)).take k = rowsT r.1 0 (idr r.2.length) := List.take_of_length_le (by rw [ilen]; exact hkl)
              rw [etk] at hRR ⊢
              try simp only [tsNx, tsSeq, tsBrk, tsCt, tsDrop, tsRet, tsRetN, tsIf, tsAsg, tgN, tgsNil, tgsCons, tgTup, tgSub, tsFor, tsWhile, tiSeq, tiRng1, tiRng2, tiZip, tb, tv, tc, tac, tan, ttup, tlst, tq, tand, tor, tnot, tife, tandV, torV, tnotV, tneg, tsl, tno, tpt, tcall, tbi, tml, tml0, tmj, tisi, tlRev, tlRng1, tdisp, tps, tlc, ttYes, bt1, btN, setsT, wipeT, endT, List.getElem?_cons_zero, List.getElem?_cons_succ, List.set_cons_zero, List.set_cons_succ]
              refine st_tupl hRR ?_
              refine ⟨z4000 (by simp), z4000 (by simp), hMM3, by rw [List.length_take]; have := rok.few; exact Nat.lt_of_lt_of_le (show min j _ < 100 by omega) (by decide), fun U1 u => ?_⟩
              refine ⟨hjl, ?_, u.at_, u.get (Ne.symm hMZ) hZ3, u.get (Ne.symm hMO) hO3, ?_⟩
              · have e : ((same rows).map mapT)[j]? = some (mapT (r.1, idr r.2.length)) := by
                  unfold same
                  rw [List.getElem?_map, List.getElem?_map, hr]; rfl
                rw [List.take_succ, e]; rfl
              · obtain ⟨ne, b1, b2, b3, b4, b5, b6⟩ := dk3
                exact ⟨ne, b1, b2, b3, u.get (Ne.symm hMD.1) b4, u.get (Ne.symm hMD.2) b5, b6⟩
        | none =>
          have hjl := List.getElem?_eq_none_iff.mp hy
          rw [List.length_map] at hjl
          have etk : ((same rows).map mapT).take j = (same rows).map mapT := List.take_of_length_le (by rw [slen]; exact hjl)
          rw [etk] at hMM ⊢
          try simp only [tsNx, tsSeq, tsBrk, tsCt, tsDrop, tsRet, tsRetN, tsIf, tsAsg, tgN, tgsNil, tgsCons, tgTup, tgSub, tsFor, tsWhile, tiSeq, tiRng1, tiRng2, tiZip, tb, tv, tc, tac, tan, ttup, tlst, tq, tand, tor, tnot, tife, tandV, torV, tnotV, tneg, tsl, tno, tpt, tcall, tbi, tml, tml0, tmj, tisi, tlRev, tlRng1, tdisp, tps, tlc, ttYes, bt1, btN, setsT, wipeT, endT, List.getElem?_cons_zero, List.getElem?_cons_succ, List.set_cons_zero, List.set_cons_succ]
          refine st_tupl hMM ?_
          rw [hv9]
          refine for_cut fun b2 hb2 => ?_
          try simp only [tsNx, tsSeq, tsBrk, tsCt, tsDrop, tsRet, tsRetN, tsIf, tsAsg, tgN, tgsNil, tgsCons, tgTup, tgSub, tsFor, tsWhile, tiSeq, tiRng1, tiRng2, tiZip, tb, tv, tc, tac, tan, ttup, tlst, tq, tand, tor, tnot, tife, tandV, torV, tnotV, tneg, tsl, tno, tpt, tcall, tbi, tml, tml0, tmj, tisi, tlRev, tlRng1, tdisp, tps, tlc, ttYes, bt1, btN, setsT, wipeT, endT, List.getElem?_cons_zero, List.getElem?_cons_succ, List.set_cons_zero, List.set_cons_succ]
          refine ⟨by omega, by omega, fun t ρ' S' => (∃ a9 a10 a11 a12 a13 a14, ρ' = [some (T.fl (ns.map T.int)), some (.int (0 + (i : Int))), some (.adr D), some (.bl (w3 == 5)), some (.int fa), some (.adr O), some (.adr Z), some (mapsT rows), some (mapsT (same rows)), a9, a10, a11, a12, a13, a14]) ∧ Fr D C T2 S', ⟨⟨_, _, _, _, _, _, rfl⟩, Fr.refl dk2⟩, ?_⟩
          rintro t ρ' T4 ⟨⟨c9, c10, c11, c12, c13, c14, rfl⟩, f4⟩
          refine ⟨trivial, ?_⟩
          cases hxx : (rngT 0 (6 : Int).toNat)[t]? with
          | none =>
            simp only []
            rw [hE]
            exact ⟨_, _, _, _, _, _, _, _, _, _, _, _, _, _, rfl⟩
          | some tt =>
            obtain ⟨_, rfl⟩ := rng_some hxx
            try simp only [tsNx, tsSeq, tsBrk, tsCt, tsDrop, tsRet, tsRetN, tsIf, tsAsg, tgN, tgsNil, tgsCons, tgTup, tgSub, tsFor, tsWhile, tiSeq, tiRng1, tiRng2, tiZip, tb, tv, tc, tac, tan, ttup, tlst, tq, tand, tor, tnot, tife, tandV, torV, tnotV, tneg, tsl, tno, tpt, tcall, tbi, tml, tml0, tmj, tisi, tlRev, tlRng1, tdisp, tps, tlc, ttYes, bt1, btN, setsT, wipeT, endT, List.getElem?_cons_zero, List.getElem?_cons_succ, List.set_cons_zero, List.set_cons_succ]
            rw [hb2]
            refine ends_cut fun E2 hE2 => ?_
            -- a kind
            refine seq_cut fun u1 hu1 => ?_
            try simp only [tsNx, tsSeq, tsBrk, tsCt, tsDrop, tsRet, tsRetN, tsIf, tsAsg, tgN, tgsNil, tgsCons, tgTup, tgSub, tsFor, tsWhile, tiSeq, tiRng1, tiRng2, tiZip, tb, tv, tc, tac, tan, ttup, tlst, tq, tand, tor, tnot, tife, tandV, torV, tnotV, tneg, tsl, tno, tpt, tcall, tbi, tml, tml0, tmj, tisi, tlRev, tlRng1, tdisp, tps, tlc, ttYes, bt1, btN, setsT, wipeT, endT, List.getElem?_cons_zero, List.getElem?_cons_succ, List.set_cons_zero, List.set_cons_succ]
            refine ⟨rfl, D, C, 3, rfl, f4.dk, by omega, by omega, fun wd T5 w0 w1 f5 => ?_⟩
            try simp only [ev_t0, ev_t1, ev_t2, ev_eqs, ev_eqi, ev_intb, ev_inti, ev_add, ev_sub, ev_lt, ev_gt, ev_sl1, ev_in2, ev_lent, ev_isn, Bool.or_false, Bool.or_true, Bool.false_or, Bool.true_or, eqG_f, eqG_t, kq, Bool.not_true, Bool.not_false, if_true, if_false, ite_true, ite_false, reduceIte, s_num_num, s_num_truth, s_num_open, s_num_list, s_num_pair, s_num_either, s_num_left, s_num_right, s_num_thing, s_num_fault, s_num_worth, s_num_table, s_truth_num, s_truth_truth, s_truth_open, s_truth_list, s_truth_pair, s_truth_either, s_truth_left, s_truth_right, s_truth_thing, s_truth_fault, s_truth_worth, s_truth_table, s_open_num, s_open_truth, s_open_open, s_open_list, s_open_pair, s_open_either, s_open_left, s_open_right, s_open_thing, s_open_fault, s_open_worth, s_open_table, s_list_num, s_list_truth, s_list_open, s_list_list, s_list_pair, s_list_either, s_list_left, s_list_right, s_list_thing, s_list_fault, s_list_worth, s_list_table, s_pair_num, s_pair_truth, s_pair_open, s_pair_list, s_pair_pair, s_pair_either, s_pair_left, s_pair_right, s_pair_thing, s_pair_fault, s_pair_worth, s_pair_table, s_either_num, s_either_truth, s_either_open, s_either_list, s_either_pair, s_either_either, s_either_left, s_either_right, s_either_thing, s_either_fault, s_either_worth, s_either_table, s_left_num, s_left_truth, s_left_open, s_left_list, s_left_pair, s_left_either, s_left_left, s_left_right, s_left_thing, s_left_fault, s_left_worth, s_left_table, s_right_num, s_right_truth, s_right_open, s_right_list, s_right_pair, s_right_either, s_right_left, s_right_right, s_right_thing, s_right_fault, s_right_worth, s_right_table, s_thing_num, s_thing_truth, s_thing_open, s_thing_list, s_thing_pair, s_thing_either, s_thing_left, s_thing_right, s_thing_thing, s_thing_fault, s_thing_worth, s_thing_table, s_fault_num, s_fault_truth, s_fault_open, s_fault_list, s_fault_pair, s_fault_either, s_fault_left, s_fault_right, s_fault_thing, s_fault_fault, s_fault_worth, s_fault_table, s_worth_num, s_worth_truth, s_worth_open, s_worth_list, s_worth_pair, s_worth_either, s_worth_left, s_worth_right, s_worth_thing, s_worth_fault, s_worth_worth, s_worth_table, s_table_num, s_table_truth, s_table_open, s_table_list, s_table_pair, s_table_either, s_table_left, s_table_right, s_table_thing, s_table_fault, s_table_worth, s_table_table]
            have f45 := f4.trans f5
            refine ⟨rfl, D, C, O, opens, _, false, rfl, f45.dk, O1, O2, f45.kp _ _ O1 O2 hO2, ol1, by omega, by omega, by omega, fun kd T6 kok kh f6 => ?_⟩
            have f46 := f45.trans f6
            have kh5 : kd.h < 5 := by omega
            obtain ⟨tag, parts, ek, fine⟩ := k_parts hlow kd kok kh5
            -- a worth
            rw [hu1]
            refine seq_cut fun u2 hu2 => ?_
            have behind : ∀ (m : Int) (T7 : Sto), (m = 3 ∨ m = 12) → Fr D C T2 T7 → spWorth 5 [.adr D, Kd.t kd, .adr Z, .int m] T7 fun x S1 => u2 E2 [some (T.fl (ns.map T.int)), some (.int (0 + (i : Int))), some (.adr D), some (.bl (w3 == 5)), some (.int fa), some (.adr O), some (.adr Z), some (mapsT rows), some (mapsT (same rows)), some (.int (0 + (t : Int))), some (Kd.t kd), some x, c12, c13, c14] S1 := by
              intro m T7 hm f7
              refine ⟨D, C, Z, szZ z1, z1.map (·.1), kd, m, rfl, f7.dk, Z1, Z2, sizes_of zok (f7.kp _ _ Z1 Z2 hZ2), ok_mono (fun x hx => (zkeys x).mpr hx) kd kok, kh5, by omega, by omega, fun wo T8 hw8 f8 => ?_⟩
              have f78 := f7.trans f8
              have hasr : Has (siz rows) 12 kd wo := has_congr (fun x hx => by rw [rsz x hx]) kd wo (ok_mono (fun x hx => (zkeys x).mpr hx) kd kok) hw8
              have hass : Has (siz (same rows)) 12 kd wo := has_congr (names := z1.map (·.1)) (fun x _ => same_siz rows x) kd wo (ok_mono (fun x hx => (zkeys x).mpr hx) kd kok) hasr
              rw [hu2]
              refine seq_cut fun u3 hu3 => ?_
              try simp only [tsNx, tsSeq, tsBrk, tsCt, tsDrop, tsRet, tsRetN, tsIf, tsAsg, tgN, tgsNil, tgsCons, tgTup, tgSub, tsFor, tsWhile, tiSeq, tiRng1, tiRng2, tiZip, tb, tv, tc, tac, tan, ttup, tlst, tq, tand, tor, tnot, tife, tandV, torV, tnotV, tneg, tsl, tno, tpt, tcall, tbi, tml, tml0, tmj, tisi, tlRev, tlRng1, tdisp, tps, tlc, ttYes, bt1, btN, setsT, wipeT, endT, List.getElem?_cons_zero, List.getElem?_cons_succ, List.set_cons_zero, List.set_cons_succ]
              refine ⟨rfl, rows, kd, wo, rfl, rok, kh5, hasr, fun T9 x9 => ?_⟩
              try simp only [ev_t0, ev_t1, ev_t2, ev_eqs, ev_eqi, ev_intb, ev_inti, ev_add, ev_sub, ev_lt, ev_gt, ev_sl1, ev_in2, ev_lent, ev_isn, Bool.or_false, Bool.or_true, Bool.false_or, Bool.true_or, eqG_f, eqG_t, kq, Bool.not_true, Bool.not_false, if_true, if_false, ite_true, ite_false, reduceIte, s_num_num, s_num_truth, s_num_open, s_num_list, s_num_pair, s_num_either, s_num_left, s_num_right, s_num_thing, s_num_fault, s_num_worth, s_num_table, s_truth_num, s_truth_truth, s_truth_open, s_truth_list, s_truth_pair, s_truth_either, s_truth_left, s_truth_right, s_truth_thing, s_truth_fault, s_truth_worth, s_truth_table, s_open_num, s_open_truth, s_open_open, s_open_list, s_open_pair, s_open_either, s_open_left, s_open_right, s_open_thing, s_open_fault, s_open_worth, s_open_table, s_list_num, s_list_truth, s_list_open, s_list_list, s_list_pair, s_list_either, s_list_left, s_list_right, s_list_thing, s_list_fault, s_list_worth, s_list_table, s_pair_num, s_pair_truth, s_pair_open, s_pair_list, s_pair_pair, s_pair_either, s_pair_left, s_pair_right, s_pair_thing, s_pair_fault, s_pair_worth, s_pair_table, s_either_num, s_either_truth, s_either_open, s_either_list, s_either_pair, s_either_either, s_either_left, s_either_right, s_either_thing, s_either_fault, s_either_worth, s_either_table, s_left_num, s_left_truth, s_left_open, s_left_list, s_left_pair, s_left_either, s_left_left, s_left_right, s_left_thing, s_left_fault, s_left_worth, s_left_table, s_right_num, s_right_truth, s_right_open, s_right_list, s_right_pair, s_right_either, s_right_left, s_right_right, s_right_thing, s_right_fault, s_right_worth, s_right_table, s_thing_num, s_thing_truth, s_thing_open, s_thing_list, s_thing_pair, s_thing_either, s_thing_left, s_thing_right, s_thing_thing, s_thing_fault, s_thing_worth, s_thing_table, s_fault_num, s_fault_truth, s_fault_open, s_fault_list, s_fault_pair, s_fault_either, s_fault_left, s_fault_right, s_fault_thing, s_fault_fault, s_fault_worth, s_fault_table, s_worth_num, s_worth_truth, s_worth_open, s_worth_list, s_worth_pair, s_worth_either, s_worth_left, s_worth_right, s_worth_thing, s_worth_fault, s_worth_worth, s_worth_table, s_table_num, s_table_truth, s_table_open, s_table_list, s_table_pair, s_table_either, s_table_left, s_table_right, s_table_thing, s_table_fault, s_table_worth, s_table_table]
              rw [hu3]
              refine seq_cut fun u4 hu4 => ?_
              try simp only [tsNx, tsSeq, tsBrk, tsCt, tsDrop, tsRet, tsRetN, tsIf, tsAsg, tgN, tgsNil, tgsCons, tgTup, tgSub, tsFor, tsWhile, tiSeq, tiRng1, tiRng2, tiZip, tb, tv, tc, tac, tan, ttup, tlst, tq, tand, tor, tnot, tife, tandV, torV, tnotV, tneg, tsl, tno, tpt, tcall, tbi, tml, tml0, tmj, tisi, tlRev, tlRng1, tdisp, tps, tlc, ttYes, bt1, btN, setsT, wipeT, endT, List.getElem?_cons_zero, List.getElem?_cons_succ, List.set_cons_zero, List.set_cons_succ]
              refine ⟨rfl, same rows, kd, wo, rfl, same_ok rok, kh5, hass, fun T10 x10 => ?_⟩
              try simp only [ev_t0, ev_t1, ev_t2, ev_eqs, ev_eqi, ev_intb, ev_inti, ev_add, ev_sub, ev_lt, ev_gt, ev_sl1, ev_in2, ev_lent, ev_isn, Bool.or_false, Bool.or_true, Bool.false_or, Bool.true_or, eqG_f, eqG_t, kq, Bool.not_true, Bool.not_false, if_true, if_false, ite_true, ite_false, reduceIte, s_num_num, s_num_truth, s_num_open, s_num_list, s_num_pair, s_num_either, s_num_left, s_num_right, s_num_thing, s_num_fault, s_num_worth, s_num_table, s_truth_num, s_truth_truth, s_truth_open, s_truth_list, s_truth_pair, s_truth_either, s_truth_left, s_truth_right, s_truth_thing, s_truth_fault, s_truth_worth, s_truth_table, s_open_num, s_open_truth, s_open_open, s_open_list, s_open_pair, s_open_either, s_open_left, s_open_right, s_open_thing, s_open_fault, s_open_worth, s_open_table, s_list_num, s_list_truth, s_list_open, s_list_list, s_list_pair, s_list_either, s_list_left, s_list_right, s_list_thing, s_list_fault, s_list_worth, s_list_table, s_pair_num, s_pair_truth, s_pair_open, s_pair_list, s_pair_pair, s_pair_either, s_pair_left, s_pair_right, s_pair_thing, s_pair_fault, s_pair_worth, s_pair_table, s_either_num, s_either_truth, s_either_open, s_either_list, s_either_pair, s_either_either, s_either_left, s_either_right, s_either_thing, s_either_fault, s_either_worth, s_either_table, s_left_num, s_left_truth, s_left_open, s_left_list, s_left_pair, s_left_either, s_left_left, s_left_right, s_left_thing, s_left_fault, s_left_worth, s_left_table, s_right_num, s_right_truth, s_right_open, s_right_list, s_right_pair, s_right_either, s_right_left, s_right_right, s_right_thing, s_right_fault, s_right_worth, s_right_table, s_thing_num, s_thing_truth, s_thing_open, s_thing_list, s_thing_pair, s_thing_either, s_thing_left, s_thing_right, s_thing_thing, s_thing_fault, s_thing_worth, s_thing_table, s_fault_num, s_fault_truth, s_fault_open, s_fault_list, s_fault_pair, s_fault_either, s_fault_left, s_fault_right, s_fault_thing, s_fault_fault, s_fault_worth, s_fault_table, s_worth_num, s_worth_truth, s_worth_open, s_worth_list, s_worth_pair, s_worth_either, s_worth_left, s_worth_right, s_worth_thing, s_worth_fault, s_worth_worth, s_worth_table, s_table_num, s_table_truth, s_table_open, s_table_list, s_table_pair, s_table_either, s_table_left, s_table_right, s_table_thing, s_table_fault, s_table_worth, s_table_table]
              rw [hu4]
              try simp only [tsNx, tsSeq, tsBrk, tsCt, tsDrop, tsRet, tsRetN, tsIf, tsAsg, tgN, tgsNil, tgsCons, tgTup, tgSub, tsFor, tsWhile, tiSeq, tiRng1, tiRng2, tiZip, tb, tv, tc, tac, tan, ttup, tlst, tq, tand, tor, tnot, tife, tandV, torV, tnotV, tneg, tsl, tno, tpt, tcall, tbi, tml, tml0, tmj, tisi, tlRev, tlRng1, tdisp, tps, tlc, ttYes, bt1, btN, setsT, wipeT, endT, List.getElem?_cons_zero, List.getElem?_cons_succ, List.set_cons_zero, List.set_cons_succ]
              refine ⟨rfl, same rows, kd, wo, rfl, same_ok rok, kh5, hass, fun T11 x11 => ?_⟩
              rw [map_id (fun x k hk => same_tell (by rw [← same_siz]; exact hk)) kd wo hass]
              refine ⟨z4000 (by simp), ?_⟩
              have fi := w_fine (s12_small rok) kh5 (has_map (tell_lt (same_ok rok)) kd wo wo hass (map_id (fun x k hk => same_tell (by rw [← same_siz]; exact hk)) kd wo hass) |> fun h => has_congr (names := z1.map (·.1)) (fun x _ => by unfold s12; rw [same_siz]) kd wo (ok_mono (fun x hx => (zkeys x).mpr hx) kd kok) h)
              simp only [resT]
              refine st_eq fi.pu fi.pu (by have := fi.de; omega) ?_
              rw [eqT_refl _ fi.pu]
              try simp only [ev_t0, ev_t1, ev_t2, ev_eqs, ev_eqi, ev_intb, ev_inti, ev_add, ev_sub, ev_lt, ev_gt, ev_sl1, ev_in2, ev_lent, ev_isn, Bool.or_false, Bool.or_true, Bool.false_or, Bool.true_or, eqG_f, eqG_t, kq, Bool.not_true, Bool.not_false, if_true, if_false, ite_true, ite_false, reduceIte, s_num_num, s_num_truth, s_num_open, s_num_list, s_num_pair, s_num_either, s_num_left, s_num_right, s_num_thing, s_num_fault, s_num_worth, s_num_table, s_truth_num, s_truth_truth, s_truth_open, s_truth_list, s_truth_pair, s_truth_either, s_truth_left, s_truth_right, s_truth_thing, s_truth_fault, s_truth_worth, s_truth_table, s_open_num, s_open_truth, s_open_open, s_open_list, s_open_pair, s_open_either, s_open_left, s_open_right, s_open_thing, s_open_fault, s_open_worth, s_open_table, s_list_num, s_list_truth, s_list_open, s_list_list, s_list_pair, s_list_either, s_list_left, s_list_right, s_list_thing, s_list_fault, s_list_worth, s_list_table, s_pair_num, s_pair_truth, s_pair_open, s_pair_list, s_pair_pair, s_pair_either, s_pair_left, s_pair_right, s_pair_thing, s_pair_fault, s_pair_worth, s_pair_table, s_either_num, s_either_truth, s_either_open, s_either_list, s_either_pair, s_either_either, s_either_left, s_either_right, s_either_thing, s_either_fault, s_either_worth, s_either_table, s_left_num, s_left_truth, s_left_open, s_left_list, s_left_pair, s_left_either, s_left_left, s_left_right, s_left_thing, s_left_fault, s_left_worth, s_left_table, s_right_num, s_right_truth, s_right_open, s_right_list, s_right_pair, s_right_either, s_right_left, s_right_right, s_right_thing, s_right_fault, s_right_worth, s_right_table, s_thing_num, s_thing_truth, s_thing_open, s_thing_list, s_thing_pair, s_thing_either, s_thing_left, s_thing_right, s_thing_thing, s_thing_fault, s_thing_worth, s_thing_table, s_fault_num, s_fault_truth, s_fault_open, s_fault_list, s_fault_pair, s_fault_either, s_fault_left, s_fault_right, s_fault_thing, s_fault_fault, s_fault_worth, s_fault_table, s_worth_num, s_worth_truth, s_worth_open, s_worth_list, s_worth_pair, s_worth_either, s_worth_left, s_worth_right, s_worth_thing, s_worth_fault, s_worth_worth, s_worth_table, s_table_num, s_table_truth, s_table_open, s_table_list, s_table_pair, s_table_either, s_table_left, s_table_right, s_table_thing, s_table_fault, s_table_worth, s_table_table]
              rw [hE2]
              exact ⟨⟨_, _, _, _, _, _, rfl⟩, ((f78.ex x9).ex x10).ex x11⟩
            try simp only [tsNx, tsSeq, tsBrk, tsCt, tsDrop, tsRet, tsRetN, tsIf, tsAsg, tgN, tgsNil, tgsCons, tgTup, tgSub, tsFor, tsWhile, tiSeq, tiRng1, tiRng2, tiZip, tb, tv, tc, tac, tan, ttup, tlst, tq, tand, tor, tnot, tife, tandV, torV, tnotV, tneg, tsl, tno, tpt, tcall, tbi, tml, tml0, tmj, tisi, tlRev, tlRng1, tdisp, tps, tlc, ttYes, bt1, btN, setsT, wipeT, endT, List.getElem?_cons_zero, List.getElem?_cons_succ, List.set_cons_zero, List.set_cons_succ]
            refine st_lst (by simp) (nw fun p T7 hp hpp x7 => ?_)
            try simp only [ev_t0, ev_t1, ev_t2, ev_eqs, ev_eqi, ev_intb, ev_inti, ev_add, ev_sub, ev_lt, ev_gt, ev_sl1, ev_in2, ev_lent, ev_isn, Bool.or_false, Bool.or_true, Bool.false_or, Bool.true_or, eqG_f, eqG_t, kq, Bool.not_true, Bool.not_false, if_true, if_false, ite_true, ite_false, reduceIte, s_num_num, s_num_truth, s_num_open, s_num_list, s_num_pair, s_num_either, s_num_left, s_num_right, s_num_thing, s_num_fault, s_num_worth, s_num_table, s_truth_num, s_truth_truth, s_truth_open, s_truth_list, s_truth_pair, s_truth_either, s_truth_left, s_truth_right, s_truth_thing, s_truth_fault, s_truth_worth, s_truth_table, s_open_num, s_open_truth, s_open_open, s_open_list, s_open_pair, s_open_either, s_open_left, s_open_right, s_open_thing, s_open_fault, s_open_worth, s_open_table, s_list_num, s_list_truth, s_list_open, s_list_list, s_list_pair, s_list_either, s_list_left, s_list_right, s_list_thing, s_list_fault, s_list_worth, s_list_table, s_pair_num, s_pair_truth, s_pair_open, s_pair_list, s_pair_pair, s_pair_either, s_pair_left, s_pair_right, s_pair_thing, s_pair_fault, s_pair_worth, s_pair_table, s_either_num, s_either_truth, s_either_open, s_either_list, s_either_pair, s_either_either, s_either_left, s_either_right, s_either_thing, s_either_fault, s_either_worth, s_either_table, s_left_num, s_left_truth, s_left_open, s_left_list, s_left_pair, s_left_either, s_left_left, s_left_right, s_left_thing, s_left_fault, s_left_worth, s_left_table, s_right_num, s_right_truth, s_right_open, s_right_list, s_right_pair, s_right_either, s_right_left, s_right_right, s_right_thing, s_right_fault, s_right_worth, s_right_table, s_thing_num, s_thing_truth, s_thing_open, s_thing_list, s_thing_pair, s_thing_either, s_thing_left, s_thing_right, s_thing_thing, s_thing_fault, s_thing_worth, s_thing_table, s_fault_num, s_fault_truth, s_fault_open, s_fault_list, s_fault_pair, s_fault_either, s_fault_left, s_fault_right, s_fault_thing, s_fault_fault, s_fault_worth, s_fault_table, s_worth_num, s_worth_truth, s_worth_open, s_worth_list, s_worth_pair, s_worth_either, s_worth_left, s_worth_right, s_worth_thing, s_worth_fault, s_worth_worth, s_worth_table, s_table_num, s_table_truth, s_table_open, s_table_list, s_table_pair, s_table_either, s_table_left, s_table_right, s_table_thing, s_table_fault, s_table_worth, s_table_table]
            have f7 := f46.ex x7
            have pick : ∀ (b : Bool) (T8 : Sto), T8 p = some (.lst [T.int 3, T.int 12]) → Fr D C T2 T8 → oIx (.adr p) (.int (if b = true then (1 : Int) else 0)) T8 fun x S1 => [T.adr D, Kd.t kd, T.adr Z, x].length = 4 ∧ spWorth 5 [.adr D, Kd.t kd, .adr Z, x] S1 fun x S1 => u2 E2 [some (T.fl (ns.map T.int)), some (.int (0 + (i : Int))), some (.adr D), some (.bl (w3 == 5)), some (.int fa), some (.adr O), some (.adr Z), some (mapsT rows), some (mapsT (same rows)), some (.int (0 + (t : Int))), some (Kd.t kd), some x, c12, c13, c14] S1 := by
              intro b T8 h8 f8
              cases b with
              | true => exact st_ixl h8 at2_1 ⟨rfl, behind 12 T8 (.inr rfl) f8⟩
              | false => exact st_ixl h8 at2_0 ⟨rfl, behind 3 T8 (.inl rfl) f8⟩
            cases e5 : ((0 + (t : Int)) == 5) with
            | false =>
              try simp only [ev_t0, ev_t1, ev_t2, ev_eqs, ev_eqi, ev_intb, ev_inti, ev_add, ev_sub, ev_lt, ev_gt, ev_sl1, ev_in2, ev_lent, ev_isn, Bool.or_false, Bool.or_true, Bool.false_or, Bool.true_or, eqG_f, eqG_t, kq, Bool.not_true, Bool.not_false, if_true, if_false, ite_true, ite_false, reduceIte, s_num_num, s_num_truth, s_num_open, s_num_list, s_num_pair, s_num_either, s_num_left, s_num_right, s_num_thing, s_num_fault, s_num_worth, s_num_table, s_truth_num, s_truth_truth, s_truth_open, s_truth_list, s_truth_pair, s_truth_either, s_truth_left, s_truth_right, s_truth_thing, s_truth_fault, s_truth_worth, s_truth_table, s_open_num, s_open_truth, s_open_open, s_open_list, s_open_pair, s_open_either, s_open_left, s_open_right, s_open_thing, s_open_fault, s_open_worth, s_open_table, s_list_num, s_list_truth, s_list_open, s_list_list, s_list_pair, s_list_either, s_list_left, s_list_right, s_list_thing, s_list_fault, s_list_worth, s_list_table, s_pair_num, s_pair_truth, s_pair_open, s_pair_list, s_pair_pair, s_pair_either, s_pair_left, s_pair_right, s_pair_thing, s_pair_fault, s_pair_worth, s_pair_table, s_either_num, s_either_truth, s_either_open, s_either_list, s_either_pair, s_either_either, s_either_left, s_either_right, s_either_thing, s_either_fault, s_either_worth, s_either_table, s_left_num, s_left_truth, s_left_open, s_left_list, s_left_pair, s_left_either, s_left_left, s_left_right, s_left_thing, s_left_fault, s_left_worth, s_left_table, s_right_num, s_right_truth, s_right_open, s_right_list, s_right_pair, s_right_either, s_right_left, s_right_right, s_right_thing, s_right_fault, s_right_worth, s_right_table, s_thing_num, s_thing_truth, s_thing_open, s_thing_list, s_thing_pair, s_thing_either, s_thing_left, s_thing_right, s_thing_thing, s_thing_fault, s_thing_worth, s_thing_table, s_fault_num, s_fault_truth, s_fault_open, s_fault_list, s_fault_pair, s_fault_either, s_fault_left, s_fault_right, s_fault_thing, s_fault_fault, s_fault_worth, s_fault_table, s_worth_num, s_worth_truth, s_worth_open, s_worth_list, s_worth_pair, s_worth_either, s_worth_left, s_worth_right, s_worth_thing, s_worth_fault, s_worth_worth, s_worth_table, s_table_num, s_table_truth, s_table_open, s_table_list, s_table_pair, s_table_either, s_table_left, s_table_right, s_table_thing, s_table_fault, s_table_worth, s_table_table]
              exact pick false T7 hpp f7
            | true =>
              simp only []
              rw [ek]
              try simp only [ev_t0, ev_t1, ev_t2, ev_eqs, ev_eqi, ev_intb, ev_inti, ev_add, ev_sub, ev_lt, ev_gt, ev_sl1, ev_in2, ev_lent, ev_isn, Bool.or_false, Bool.or_true, Bool.false_or, Bool.true_or, eqG_f, eqG_t, kq, Bool.not_true, Bool.not_false, if_true, if_false, ite_true, ite_false, reduceIte, s_num_num, s_num_truth, s_num_open, s_num_list, s_num_pair, s_num_either, s_num_left, s_num_right, s_num_thing, s_num_fault, s_num_worth, s_num_table, s_truth_num, s_truth_truth, s_truth_open, s_truth_list, s_truth_pair, s_truth_either, s_truth_left, s_truth_right, s_truth_thing, s_truth_fault, s_truth_worth, s_truth_table, s_open_num, s_open_truth, s_open_open, s_open_list, s_open_pair, s_open_either, s_open_left, s_open_right, s_open_thing, s_open_fault, s_open_worth, s_open_table, s_list_num, s_list_truth, s_list_open, s_list_list, s_list_pair, s_list_either, s_list_left, s_list_right, s_list_thing, s_list_fault, s_list_worth, s_list_table, s_pair_num, s_pair_truth, s_pair_open, s_pair_list, s_pair_pair, s_pair_either, s_pair_left, s_pair_right, s_pair_thing, s_pair_fault, s_pair_worth, s_pair_table, s_either_num, s_either_truth, s_either_open, s_either_list, s_either_pair, s_either_either, s_either_left, s_either_right, s_either_thing, s_either_fault, s_either_worth, s_either_table, s_left_num, s_left_truth, s_left_open, s_left_list, s_left_pair, s_left_either, s_left_left, s_left_right, s_left_thing, s_left_fault, s_left_worth, s_left_table, s_right_num, s_right_truth, s_right_open, s_right_list, s_right_pair, s_right_either, s_right_left, s_right_right, s_right_thing, s_right_fault, s_right_worth, s_right_table, s_thing_num, s_thing_truth, s_thing_open, s_thing_list, s_thing_pair, s_thing_either, s_thing_left, s_thing_right, s_thing_thing, s_thing_fault, s_thing_worth, s_thing_table, s_fault_num, s_fault_truth, s_fault_open, s_fault_list, s_fault_pair, s_fault_either, s_fault_left, s_fault_right, s_fault_thing, s_fault_fault, s_fault_worth, s_fault_table, s_worth_num, s_worth_truth, s_worth_open, s_worth_list, s_worth_pair, s_worth_either, s_worth_left, s_worth_right, s_worth_thing, s_worth_fault, s_worth_worth, s_worth_table, s_table_num, s_table_truth, s_table_open, s_table_list, s_table_pair, s_table_either, s_table_left, s_table_right, s_table_thing, s_table_fault, s_table_worth, s_table_table]
              refine st_repr fine ?_
              simp only [oInG, eqG]
              rw [← ek]
              exact pick _ T7 hpp f7
      try simp only [tsNx, tsSeq, tsBrk, tsCt, tsDrop, tsRet, tsRetN, tsIf, tsAsg, tgN, tgsNil, tgsCons, tgTup, tgSub, tsFor, tsWhile, tiSeq, tiRng1, tiRng2, tiZip, tb, tv, tc, tac, tan, ttup, tlst, tq, tand, tor, tnot, tife, tandV, torV, tnotV, tneg, tsl, tno, tpt, tcall, tbi, tml, tml0, tmj, tisi, tlRev, tlRng1, tdisp, tps, tlc, ttYes, bt1, btN, setsT, wipeT, endT, List.getElem?_cons_zero, List.getElem?_cons_succ, List.set_cons_zero, List.set_cons_succ]
      cases e3 : (w3 == 5) with
      | false =>
        simp only [kq]
        rw [e3] at rest
        exact rest z0 S12 zok zkeys zlen hZZ hOO12 dk12
      | true =>
        simp only [kq]
        rw [e3] at rest
        obtain ⟨x0, ex0, hx0, _⟩ := atI_ok (xs := opens.map T.str) (i := 0) (by omega) (by rw [List.length_map]; omega)
        obtain ⟨nm, hnm, rfl⟩ := List.mem_map.mp hx0
        refine st_ixl hOO12 ex0 ?_
        refine st_setd hZZ rfl (Nat.lt_of_le_of_lt (show (rep z0).length ≤ 8 by unfold rep; rw [List.length_map]; exact zlen) (by decide)) fun S13 u => ?_
        have hk0 : nm ∈ z0.map (·.1) := (zkeys nm).mpr hnm
        have hZ13 := u.at_
        rw [show putT (rep z0) (.inr nm) (.int 12) = rep (putZ z0 nm 12) from rep_put z0 nm 12] at hZ13
        obtain ⟨ne, b1, b2, b3, b4, b5, b6⟩ := dk12
        refine rest (putZ z0 nm 12) S13 (zok.put (by omega) (by omega)) (fun y => ?_) ?_ hZ13 (u.get hOZ hOO12) ⟨ne, b1, b2, b3, u.get (Ne.symm Z1) b4, u.get (Ne.symm Z2) b5, b6⟩
        · rw [putZ_keys, if_pos hk0]; exact zkeys y
        · have h1 : ((putZ z0 nm 12).map (·.1)).length = (z0.map (·.1)).length := by rw [putZ_keys, if_pos hk0]
          rw [List.length_map, List.length_map] at h1
          omega
end LAW
set_option Elab.async false
set_option linter.all false
set_option maxRecDepth 100000
set_option maxHeartbeats 4000000
/-! TLE: joined (printed by mkE.py). -/
namespace LAW
open PySem PySem.Spec PyProof.Rows L2 TL
/-- what the top has written -/
structure Top (K : PySem.W.Frag) (mg : Str → Option Value) : Prop where
  d_table_for : ∃ f fd, mg "table_for" = some (.ref f) ∧ Fun K "table_for" "table_for" st_table_for f fd
  d_mapped_all : ∃ f fd, mg "mapped_all" = some (.ref f) ∧ Fun K "mapped_all" "mapped_all" st_mapped_all f fd
  d_mapped : ∃ f fd, mg "mapped" = some (.ref f) ∧ Fun K "mapped" "mapped" st_mapped f fd
  d_Ldeck : ∃ f fd, mg "_law_deck" = some (.ref f) ∧ Fun K "_law_deck" "_law_deck" st_Ldeck f fd
  d_Ldraw : ∃ f fd, mg "_law_draw" = some (.ref f) ∧ Fun K "_law_draw" "_law_draw" st_Ldraw f fd
  d_Lpick : ∃ f fd, mg "_law_pick" = some (.ref f) ∧ Fun K "_law_pick" "_law_pick" st_Lpick f fd
  d_Lnames : ∃ f fd, mg "_law_names" = some (.ref f) ∧ Fun K "_law_names" "_law_names" st_Lnames f fd
  d_Ldata : ∃ f fd, mg "_law_data" = some (.ref f) ∧ Fun K "_law_data" "_law_data" st_Ldata f fd
  d_Lworth : ∃ f fd, mg "_law_worth" = some (.ref f) ∧ Fun K "_law_worth" "_law_worth" st_Lworth f fd
  d_Lmaps : ∃ f fd, mg "_law_maps" = some (.ref f) ∧ Fun K "_law_maps" "_law_maps" st_Lmaps f fd
  d_Lmapped : ∃ f fd, mg "_law_mapped" = some (.ref f) ∧ Fun K "_law_mapped" "_law_mapped" st_Lmapped f fd
  d_Lbare : ∃ f fd, mg "_law_bare" = some (.ref f) ∧ Fun K "_law_bare" "_law_bare" st_Lbare f fd
  d_Lright : ∃ f fd, mg "_law_right" = some (.ref f) ∧ Fun K "_law_right" "_law_right" st_Lright f fd
  d_law : ∃ f fd, mg "law" = some (.ref f) ∧ Fun K "law" "law" st_law f fd
  n_dict : mg "dict" = none
  n_int : mg "int" = none
  n_isinstance : mg "isinstance" = none
  n_len : mg "len" = none
  n_list : mg "list" = none
  n_max : mg "max" = none
  n_min : mg "min" = none
  n_range : mg "range" = none
  n_repr : mg "repr" = none
  n_reversed : mg "reversed" = none
  n_sorted : mg "sorted" = none
  n_sum : mg "sum" = none
  n_tuple : mg "tuple" = none
  n_zip : mg "zip" = none
  fault : ∃ u, mg "FAULT" = some u ∧ ∀ (P : Program) (w : World), Glo ⟨P, w, K⟩ u (.tup [.str (Str.ofString "fault")])
section
variable {P : Program} {w : World} {K : PySem.W.Frag} {mg : Str → Option Value} {base : Heap}
theorem c_Ldraw (T : Top K mg) : Cal P w K mg base 1 "_law_draw" 2 spDraw := by
  obtain ⟨f, fd, hm, F⟩ := T.d_Ldraw
  exact cal_def F hm sc_Ldraw (F.binds fun _ _ _ _ _ _ us hl => match us, hl with | [_, _], _ => rfl) (fun cdv A outer s H E hr hgd => b_Ldraw (k := 0) hr hgd ) vc_draw
theorem c_Ldeck (T : Top K mg) : Cal P w K mg base 1 "_law_deck" 1 spDeck := by
  obtain ⟨f, fd, hm, F⟩ := T.d_Ldeck
  exact cal_def F hm sc_Ldeck (F.binds fun _ _ _ _ _ _ us hl => match us, hl with | [_], _ => rfl) (fun cdv A outer s H E hr hgd => b_Ldeck (k := 0) hr hgd (n_len := T.n_len) (n_list := T.n_list) (n_reversed := T.n_reversed) (n_sum := T.n_sum)) vc_deck
theorem c_Lpick (T : Top K mg) : Cal P w K mg base 2 "_law_pick" 2 spPick := by
  obtain ⟨f, fd, hm, F⟩ := T.d_Lpick
  exact cal_def F hm sc_Lpick (F.binds fun _ _ _ _ _ _ us hl => match us, hl with | [_, _], _ => rfl) (fun cdv A outer s H E hr hgd => b_Lpick (k := 1) hr hgd (c_Ldraw := c_Ldraw T) (n_len := T.n_len)) vc_pick
theorem c_Lnames (T : Top K mg) : Cal P w K mg base 2 "_law_names" 2 spNames := by
  obtain ⟨f, fd, hm, F⟩ := T.d_Lnames
  exact cal_def F hm sc_Lnames (F.binds fun _ _ _ _ _ _ us hl => match us, hl with | [_, _], _ => rfl) (fun cdv A outer s H E hr hgd => b_Lnames (k := 1) hr hgd (c_Ldraw := c_Ldraw T) (n_len := T.n_len) (n_range := T.n_range)) vc_names
theorem c_Lmaps (T : Top K mg) : Cal P w K mg base 2 "_law_maps" 3 spMaps := by
  obtain ⟨f, fd, hm, F⟩ := T.d_Lmaps
  exact cal_def F hm sc_Lmaps (F.binds fun _ _ _ _ _ _ us hl => match us, hl with | [_, _, _], _ => rfl) (fun cdv A outer s H E hr hgd => b_Lmaps (k := 1) hr hgd (c_Ldraw := c_Ldraw T) (n_int := T.n_int) (n_len := T.n_len) (n_list := T.n_list) (n_range := T.n_range) (n_sorted := T.n_sorted) (n_tuple := T.n_tuple)) vc_maps
theorem c_table_for (T : Top K mg) : Cal P w K mg base 1 "table_for" 2 spTable := by
  obtain ⟨f, fd, hm, F⟩ := T.d_table_for
  exact cal_def F hm sc_table_for (F.binds fun _ _ _ _ _ _ us hl => match us, hl with | [_, _], _ => rfl) (fun cdv A outer s H E hr hgd => b_table_for (k := 0) hr hgd (n_dict := T.n_dict)) vc_table
theorem c_Lbare (T : Top K mg) : Cal P w K mg base 1 "_law_bare" 1 spBare := by
  obtain ⟨f, fd, hm, F⟩ := T.d_Lbare
  exact cal_def F hm sc_Lbare (F.binds fun _ _ _ _ _ _ us hl => match us, hl with | [_], _ => rfl) (fun cdv A outer s H E hr hgd => b_Lbare (k := 0) hr hgd ) vc_bare
theorem c_Ldata (T : Top K mg) : ∀ n : Nat, Cal P w K mg base (n + 2) "_law_data" 4 (spData n)
  | 0 => by
    obtain ⟨f, fd, hm, F⟩ := T.d_Ldata
    exact cal_none (ps := P_Ldata) hm F.kp (F.binds fun _ _ _ _ _ _ us hl => match us, hl with | [_, _, _, _], _ => rfl) fun ts S Q h => by
      obtain ⟨_, _, _, _, _, _, _, _, _, _, _, _, _, h1, h2, _⟩ := h
      omega
  | n + 1 => by
    obtain ⟨f, fd, hm, F⟩ := T.d_Ldata
    exact cal_def F hm sc_Ldata (F.binds fun _ _ _ _ _ _ us hl => match us, hl with | [_, _, _, _], _ => rfl) (fun cdv A outer s H E hr hgd => b_Ldata (k := n + 2) hr hgd (c_Ldata := c_Ldata T n) (c_Lpick := (c_Lpick T).mono (by omega)) (c_Ldraw := (c_Ldraw T).mono (by omega)) (n_int := T.n_int)) (vc_data n)
theorem c_Lworth (T : Top K mg) : ∀ n : Nat, Cal P w K mg base (n + 2) "_law_worth" 4 (spWorth n)
  | 0 => by
    obtain ⟨f, fd, hm, F⟩ := T.d_Lworth
    exact cal_none (ps := P_Lworth) hm F.kp (F.binds fun _ _ _ _ _ _ us hl => match us, hl with | [_, _, _, _], _ => rfl) fun ts S Q h => by
      obtain ⟨_, _, _, _, _, _, _, _, _, _, _, _, _, h1, _⟩ := h
      exact Nat.not_lt_zero _ h1
  | n + 1 => by
    obtain ⟨f, fd, hm, F⟩ := T.d_Lworth
    exact cal_def F hm sc_Lworth (F.binds fun _ _ _ _ _ _ us hl => match us, hl with | [_, _, _, _], _ => rfl) (fun cdv A outer s H E hr hgd => b_Lworth (k := n + 2) hr hgd (c_Lworth := c_Lworth T n) (c_Ldraw := (c_Ldraw T).mono (by omega)) (c_Lpick := (c_Lpick T).mono (by omega)) (n_range := T.n_range) (n_tuple := T.n_tuple)) (vc_worth n)
theorem c_all (T : Top K mg) (n : Nat) (C : Cal P w K mg base (2 * n + 1) "mapped" 3 (spMapped n)) : Cal P w K mg base (2 * n + 2) "mapped_all" 3 (spAll n) := by
  obtain ⟨f, fd, hm, F⟩ := T.d_mapped_all
  obtain ⟨u, hu, hG⟩ := T.fault
  exact cal_def F hm sc_mapped_all (F.binds fun _ _ _ _ _ _ us hl => match us, hl with | [_, _, _], _ => rfl) (fun cdv A outer s H E hr hgd => b_mapped_all (k := 2 * n + 1) hr hgd (c_mapped := C) (n_tuple := T.n_tuple) (n_zip := T.n_zip) (m_FAULT := hu) (G_FAULT := hG P w)) (vc_all n)
theorem c_mapped (T : Top K mg) : ∀ n : Nat, Cal P w K mg base (2 * n + 1) "mapped" 3 (spMapped n)
  | 0 => by
    obtain ⟨f, fd, hm, F⟩ := T.d_mapped
    exact cal_none (ps := P_mapped) hm F.kp (F.binds fun _ _ _ _ _ _ us hl => match us, hl with | [_, _, _], _ => rfl) fun ts S Q h => by
      obtain ⟨_, _, _, _, _, h1, _⟩ := h
      exact Nat.not_lt_zero _ h1
  | n + 1 => by
    obtain ⟨f, fd, hm, F⟩ := T.d_mapped
    obtain ⟨u, hu, hG⟩ := T.fault
    exact cal_def F hm sc_mapped (F.binds fun _ _ _ _ _ _ us hl => match us, hl with | [_, _, _], _ => rfl) (fun cdv A outer s H E hr hgd => b_mapped (k := 2 * n + 2) hr hgd (c_mapped_all := c_all T n (c_mapped T n)) (c_table_for := (c_table_for T).mono (by omega)) (n_len := T.n_len) (m_FAULT := hu) (G_FAULT := hG P w)) (vc_mapped n)
theorem c_Lmapped (T : Top K mg) : ∀ n : Nat, Cal P w K mg base n "_law_mapped" 2 (spLmapped n)
  | 0 => by
    obtain ⟨f, fd, hm, F⟩ := T.d_Lmapped
    exact cal_none (ps := P_Lmapped) hm F.kp (F.binds fun _ _ _ _ _ _ us hl => match us, hl with | [_, _], _ => rfl) fun ts S Q h => by
      obtain ⟨_, _, _, _, _, h1, _⟩ := h
      exact Nat.not_lt_zero _ h1
  | n + 1 => by
    obtain ⟨f, fd, hm, F⟩ := T.d_Lmapped
    exact cal_def F hm sc_Lmapped (F.binds fun _ _ _ _ _ _ us hl => match us, hl with | [_, _], _ => rfl) (fun cdv A outer s H E hr hgd => b_Lmapped (k := n) hr hgd (c_Lmapped := c_Lmapped T n) (n_dict := T.n_dict) (n_isinstance := T.n_isinstance) (n_tuple := T.n_tuple)) (vc_lmapped n)
theorem c_Lright (T : Top K mg) : Cal P w K mg base 12 "_law_right" 3 spRight := by
  obtain ⟨f, fd, hm, F⟩ := T.d_Lright
  exact cal_def F hm sc_Lright (F.binds fun _ _ _ _ _ _ us hl => match us, hl with | [_, _, _], _ => rfl) (fun cdv A outer s H E hr hgd => b_Lright (k := 11) hr hgd (c_mapped := c_mapped T 5) (c_Lbare := (c_Lbare T).mono (by omega)) (c_Lmapped := (c_Lmapped T 5).mono (by omega)) (n_isinstance := T.n_isinstance) (n_range := T.n_range) (n_repr := T.n_repr) (n_tuple := T.n_tuple)) vc_right
theorem c_law (T : Top K mg) : Cal P w K mg base 13 "law" 1 spLaw := by
  obtain ⟨f, fd, hm, F⟩ := T.d_law
  exact cal_def F hm sc_law (F.binds fun _ _ _ _ _ _ us hl => match us, hl with | [_], _ => rfl) (fun cdv A outer s H E hr hgd => b_law (k := 12) hr hgd (c_mapped := (c_mapped T 5).mono (by omega)) (c_Lright := c_Lright T) (c_Lworth := (c_Lworth T 5).mono (by omega)) (c_Ldata := (c_Ldata T 5).mono (by omega)) (c_Ldraw := (c_Ldraw T).mono (by omega)) (c_Lmaps := (c_Lmaps T).mono (by omega)) (c_Lnames := (c_Lnames T).mono (by omega)) (c_Ldeck := (c_Ldeck T).mono (by omega)) (n_dict := T.n_dict) (n_int := T.n_int) (n_len := T.n_len) (n_max := T.n_max) (n_min := T.n_min) (n_range := T.n_range) (n_repr := T.n_repr) (n_tuple := T.n_tuple)) vc_law
end
theorem top_mk {K : PySem.W.Frag} {h : Heap} {mg : Str → Option Value} (X : K.In h) (G : h.Ns mainGlobals mg) {f0 : Addr} {od0 an0 : Option Addr} {sl0 : Array (Option Value)} {oc0 kV0 dc0 pm0 cd0 ct0 : Value} {f1 : Addr} {od1 an1 : Option Addr} {sl1 : Array (Option Value)} {oc1 kV1 dc1 pm1 cd1 ct1 : Value} {f2 : Addr} {od2 an2 : Option Addr} {sl2 : Array (Option Value)} {oc2 kV2 dc2 pm2 cd2 ct2 : Value} {f3 : Addr} {od3 an3 : Option Addr} {sl3 : Array (Option Value)} {oc3 kV3 dc3 pm3 cd3 ct3 : Value} {f4 : Addr} {od4 an4 : Option Addr} {sl4 : Array (Option Value)} {oc4 kV4 dc4 pm4 cd4 ct4 : Value} {f5 : Addr} {od5 an5 : Option Addr} {sl5 : Array (Option Value)} {oc5 kV5 dc5 pm5 cd5 ct5 : Value} {f6 : Addr} {od6 an6 : Option Addr} {sl6 : Array (Option Value)} {oc6 kV6 dc6 pm6 cd6 ct6 : Value} {f7 : Addr} {od7 an7 : Option Addr} {sl7 : Array (Option Value)} {oc7 kV7 dc7 pm7 cd7 ct7 : Value} {f8 : Addr} {od8 an8 : Option Addr} {sl8 : Array (Option Value)} {oc8 kV8 dc8 pm8 cd8 ct8 : Value} {f9 : Addr} {od9 an9 : Option Addr} {sl9 : Array (Option Value)} {oc9 kV9 dc9 pm9 cd9 ct9 : Value} {f10 : Addr} {od10 an10 : Option Addr} {sl10 : Array (Option Value)} {oc10 kV10 dc10 pm10 cd10 ct10 : Value} {f11 : Addr} {od11 an11 : Option Addr} {sl11 : Array (Option Value)} {oc11 kV11 dc11 pm11 cd11 ct11 : Value} {f12 : Addr} {od12 an12 : Option Addr} {sl12 : Array (Option Value)} {oc12 kV12 dc12 pm12 cd12 ct12 : Value} {f13 : Addr} {od13 an13 : Option Addr} {sl13 : Array (Option Value)} {oc13 kV13 dc13 pm13 cd13 ct13 : Value} {fF : Addr} {tk : Tok} {nF : Nat} {slF : Array (Option Value)}
    (a0 : PySem.W.nsIn K mainGlobals "table_for" = some (some (.ref f0))) (l0 : K.lookup f0 = some ⟨oc0, od0, .func (PySem.W.fnOf "table_for" "table_for" (defArgs st_table_for) (defBody st_table_for) (defScope st_table_for) .none kV0 dc0 pm0 an0 cd0 ct0), sl0⟩) (e0 : PySem.W.codeIn K cd0 "table_for" = true) (k0 : PySem.W.keepIn K (.ref f0) = true)
    (a1 : PySem.W.nsIn K mainGlobals "mapped_all" = some (some (.ref f1))) (l1 : K.lookup f1 = some ⟨oc1, od1, .func (PySem.W.fnOf "mapped_all" "mapped_all" (defArgs st_mapped_all) (defBody st_mapped_all) (defScope st_mapped_all) .none kV1 dc1 pm1 an1 cd1 ct1), sl1⟩) (e1 : PySem.W.codeIn K cd1 "mapped_all" = true) (k1 : PySem.W.keepIn K (.ref f1) = true)
    (a2 : PySem.W.nsIn K mainGlobals "mapped" = some (some (.ref f2))) (l2 : K.lookup f2 = some ⟨oc2, od2, .func (PySem.W.fnOf "mapped" "mapped" (defArgs st_mapped) (defBody st_mapped) (defScope st_mapped) .none kV2 dc2 pm2 an2 cd2 ct2), sl2⟩) (e2 : PySem.W.codeIn K cd2 "mapped" = true) (k2 : PySem.W.keepIn K (.ref f2) = true)
    (a3 : PySem.W.nsIn K mainGlobals "_law_deck" = some (some (.ref f3))) (l3 : K.lookup f3 = some ⟨oc3, od3, .func (PySem.W.fnOf "_law_deck" "_law_deck" (defArgs st_Ldeck) (defBody st_Ldeck) (defScope st_Ldeck) .none kV3 dc3 pm3 an3 cd3 ct3), sl3⟩) (e3 : PySem.W.codeIn K cd3 "_law_deck" = true) (k3 : PySem.W.keepIn K (.ref f3) = true)
    (a4 : PySem.W.nsIn K mainGlobals "_law_draw" = some (some (.ref f4))) (l4 : K.lookup f4 = some ⟨oc4, od4, .func (PySem.W.fnOf "_law_draw" "_law_draw" (defArgs st_Ldraw) (defBody st_Ldraw) (defScope st_Ldraw) .none kV4 dc4 pm4 an4 cd4 ct4), sl4⟩) (e4 : PySem.W.codeIn K cd4 "_law_draw" = true) (k4 : PySem.W.keepIn K (.ref f4) = true)
    (a5 : PySem.W.nsIn K mainGlobals "_law_pick" = some (some (.ref f5))) (l5 : K.lookup f5 = some ⟨oc5, od5, .func (PySem.W.fnOf "_law_pick" "_law_pick" (defArgs st_Lpick) (defBody st_Lpick) (defScope st_Lpick) .none kV5 dc5 pm5 an5 cd5 ct5), sl5⟩) (e5 : PySem.W.codeIn K cd5 "_law_pick" = true) (k5 : PySem.W.keepIn K (.ref f5) = true)
    (a6 : PySem.W.nsIn K mainGlobals "_law_names" = some (some (.ref f6))) (l6 : K.lookup f6 = some ⟨oc6, od6, .func (PySem.W.fnOf "_law_names" "_law_names" (defArgs st_Lnames) (defBody st_Lnames) (defScope st_Lnames) .none kV6 dc6 pm6 an6 cd6 ct6), sl6⟩) (e6 : PySem.W.codeIn K cd6 "_law_names" = true) (k6 : PySem.W.keepIn K (.ref f6) = true)
    (a7 : PySem.W.nsIn K mainGlobals "_law_data" = some (some (.ref f7))) (l7 : K.lookup f7 = some ⟨oc7, od7, .func (PySem.W.fnOf "_law_data" "_law_data" (defArgs st_Ldata) (defBody st_Ldata) (defScope st_Ldata) .none kV7 dc7 pm7 an7 cd7 ct7), sl7⟩) (e7 : PySem.W.codeIn K cd7 "_law_data" = true) (k7 : PySem.W.keepIn K (.ref f7) = true)
    (a8 : PySem.W.nsIn K mainGlobals "_law_worth" = some (some (.ref f8))) (l8 : K.lookup f8 = some ⟨oc8, od8, .func (PySem.W.fnOf "_law_worth" "_law_worth" (defArgs st_Lworth) (defBody st_Lworth) (defScope st_Lworth) .none kV8 dc8 pm8 an8 cd8 ct8), sl8⟩) (e8 : PySem.W.codeIn K cd8 "_law_worth" = true) (k8 : PySem.W.keepIn K (.ref f8) = true)
    (a9 : PySem.W.nsIn K mainGlobals "_law_maps" = some (some (.ref f9))) (l9 : K.lookup f9 = some ⟨oc9, od9, .func (PySem.W.fnOf "_law_maps" "_law_maps" (defArgs st_Lmaps) (defBody st_Lmaps) (defScope st_Lmaps) .none kV9 dc9 pm9 an9 cd9 ct9), sl9⟩) (e9 : PySem.W.codeIn K cd9 "_law_maps" = true) (k9 : PySem.W.keepIn K (.ref f9) = true)
    (a10 : PySem.W.nsIn K mainGlobals "_law_mapped" = some (some (.ref f10))) (l10 : K.lookup f10 = some ⟨oc10, od10, .func (PySem.W.fnOf "_law_mapped" "_law_mapped" (defArgs st_Lmapped) (defBody st_Lmapped) (defScope st_Lmapped) .none kV10 dc10 pm10 an10 cd10 ct10), sl10⟩) (e10 : PySem.W.codeIn K cd10 "_law_mapped" = true) (k10 : PySem.W.keepIn K (.ref f10) = true)
    (a11 : PySem.W.nsIn K mainGlobals "_law_bare" = some (some (.ref f11))) (l11 : K.lookup f11 = some ⟨oc11, od11, .func (PySem.W.fnOf "_law_bare" "_law_bare" (defArgs st_Lbare) (defBody st_Lbare) (defScope st_Lbare) .none kV11 dc11 pm11 an11 cd11 ct11), sl11⟩) (e11 : PySem.W.codeIn K cd11 "_law_bare" = true) (k11 : PySem.W.keepIn K (.ref f11) = true)
    (a12 : PySem.W.nsIn K mainGlobals "_law_right" = some (some (.ref f12))) (l12 : K.lookup f12 = some ⟨oc12, od12, .func (PySem.W.fnOf "_law_right" "_law_right" (defArgs st_Lright) (defBody st_Lright) (defScope st_Lright) .none kV12 dc12 pm12 an12 cd12 ct12), sl12⟩) (e12 : PySem.W.codeIn K cd12 "_law_right" = true) (k12 : PySem.W.keepIn K (.ref f12) = true)
    (a13 : PySem.W.nsIn K mainGlobals "law" = some (some (.ref f13))) (l13 : K.lookup f13 = some ⟨oc13, od13, .func (PySem.W.fnOf "law" "law" (defArgs st_law) (defBody st_law) (defScope st_law) .none kV13 dc13 pm13 an13 cd13 ct13), sl13⟩) (e13 : PySem.W.codeIn K cd13 "law" = true) (k13 : PySem.W.keepIn K (.ref f13) = true)
    (aF : PySem.W.nsIn K mainGlobals "FAULT" = some (some (.ref fF))) (lF : K.lookup fF = some ⟨.type "tuple", none, .seq #[.str (Str.ofString "fault") tk] nF, slF⟩) (z0 : PySem.W.nsIn K mainGlobals "dict" = some none) (z1 : PySem.W.nsIn K mainGlobals "int" = some none) (z2 : PySem.W.nsIn K mainGlobals "isinstance" = some none) (z3 : PySem.W.nsIn K mainGlobals "len" = some none) (z4 : PySem.W.nsIn K mainGlobals "list" = some none) (z5 : PySem.W.nsIn K mainGlobals "max" = some none) (z6 : PySem.W.nsIn K mainGlobals "min" = some none) (z7 : PySem.W.nsIn K mainGlobals "range" = some none) (z8 : PySem.W.nsIn K mainGlobals "repr" = some none) (z9 : PySem.W.nsIn K mainGlobals "reversed" = some none) (z10 : PySem.W.nsIn K mainGlobals "sorted" = some none) (z11 : PySem.W.nsIn K mainGlobals "sum" = some none) (z12 : PySem.W.nsIn K mainGlobals "tuple" = some none) (z13 : PySem.W.nsIn K mainGlobals "zip" = some none) : Top K mg where
  d_table_for := ⟨f0, _, PySem.W.mg_of X G a0, fun_mk (st := st_table_for) l0 e0 k0⟩
  d_mapped_all := ⟨f1, _, PySem.W.mg_of X G a1, fun_mk (st := st_mapped_all) l1 e1 k1⟩
  d_mapped := ⟨f2, _, PySem.W.mg_of X G a2, fun_mk (st := st_mapped) l2 e2 k2⟩
  d_Ldeck := ⟨f3, _, PySem.W.mg_of X G a3, fun_mk (st := st_Ldeck) l3 e3 k3⟩
  d_Ldraw := ⟨f4, _, PySem.W.mg_of X G a4, fun_mk (st := st_Ldraw) l4 e4 k4⟩
  d_Lpick := ⟨f5, _, PySem.W.mg_of X G a5, fun_mk (st := st_Lpick) l5 e5 k5⟩
  d_Lnames := ⟨f6, _, PySem.W.mg_of X G a6, fun_mk (st := st_Lnames) l6 e6 k6⟩
  d_Ldata := ⟨f7, _, PySem.W.mg_of X G a7, fun_mk (st := st_Ldata) l7 e7 k7⟩
  d_Lworth := ⟨f8, _, PySem.W.mg_of X G a8, fun_mk (st := st_Lworth) l8 e8 k8⟩
  d_Lmaps := ⟨f9, _, PySem.W.mg_of X G a9, fun_mk (st := st_Lmaps) l9 e9 k9⟩
  d_Lmapped := ⟨f10, _, PySem.W.mg_of X G a10, fun_mk (st := st_Lmapped) l10 e10 k10⟩
  d_Lbare := ⟨f11, _, PySem.W.mg_of X G a11, fun_mk (st := st_Lbare) l11 e11 k11⟩
  d_Lright := ⟨f12, _, PySem.W.mg_of X G a12, fun_mk (st := st_Lright) l12 e12 k12⟩
  d_law := ⟨f13, _, PySem.W.mg_of X G a13, fun_mk (st := st_law) l13 e13 k13⟩
  n_dict := PySem.W.mg_none_of X G z0
  n_int := PySem.W.mg_none_of X G z1
  n_isinstance := PySem.W.mg_none_of X G z2
  n_len := PySem.W.mg_none_of X G z3
  n_list := PySem.W.mg_none_of X G z4
  n_max := PySem.W.mg_none_of X G z5
  n_min := PySem.W.mg_none_of X G z6
  n_range := PySem.W.mg_none_of X G z7
  n_repr := PySem.W.mg_none_of X G z8
  n_reversed := PySem.W.mg_none_of X G z9
  n_sorted := PySem.W.mg_none_of X G z10
  n_sum := PySem.W.mg_none_of X G z11
  n_tuple := PySem.W.mg_none_of X G z12
  n_zip := PySem.W.mg_none_of X G z13
  fault := ⟨_, PySem.W.mg_of X G aF, fun P w => ⟨.ref fF, rfl, fun H => by
    rw [rt_tup]
    refine ⟨fF, [.str (Str.ofString "fault")], rfl, .inr ⟨_, _, _, lF, rfl, rfl, rfl, (by show 1 ≤ sizeLine; decide), .cons ⟨tk, rfl⟩ .nil⟩, .cons (by rw [rt_str]) .nil⟩⟩⟩
theorem walk {l : PySem.W.OpenLaw} {q : Program} {loose : List Str} {XP : (Str → Option Value) → Heap → Prop} {YP : World → Heap → Prop} {d : DefRec} {K : Params → PySem.W.Frag} (hn : l.most = some 63) (hdf : d.params.defaults = [])
    (hY : ∀ (w : World) (h : Heap), YP w h → (K w.params).In h)
    (F : ∀ (w : World) (mg : Str → Option Value) (fa : Addr) (h : Heap), (K w.params).In h → h.Ns mainGlobals mg → mg d.name = some (.ref fa) → mg "law" = some (.ref fa) ∧ Top (K w.params) mg) :
    PySem.W.WalkO q loose XP YP l.row.toRowW d [] (fun f vs => PySem.call f vs) :=
  walk_G (n := 63) (k := 13) (x := "law") hn (by decide) hdf ⟨rfl, by decide, by decide⟩ fun w mg fa h Y G hm =>
    let r := F w mg fa h (hY w h Y) G hm
    ⟨K w.params, spLaw, hY w h Y, r.1, fun ns hl => ⟨ns, rfl, hl, fun _ => rfl⟩, fun base _ _ => c_law r.2⟩
end LAW
open PySem PySem.W PyProof.Rows
set_option maxRecDepth 100000 in
set_option maxHeartbeats 0 in
theorem PySem.Challenge.cw_kindalone_k73_worths_mapped_holds : PySem.Challenge.rw_kindalone_k73_worths_mapped.Holds := by
  w_on; o_law; k_head; (case hw => w_witness2)
  k_fill
  refine LAW.walk (l := PySem.Challenge.rw_kindalone_k73_worths_mapped) rfl rfl (fun w h Y => PySem.W.kIn_of Y) ?F
  case F =>
    intro w mg fa h KX G hmg
    refine ⟨hmg, ?_⟩
    refine' LAW.top_mk KX G ?a0 ?l0 ?e0 ?k0 ?a1 ?l1 ?e1 ?k1 ?a2 ?l2 ?e2 ?k2 ?a3 ?l3 ?e3 ?k3 ?a4 ?l4 ?e4 ?k4 ?a5 ?l5 ?e5 ?k5 ?a6 ?l6 ?e6 ?k6 ?a7 ?l7 ?e7 ?k7 ?a8 ?l8 ?e8 ?k8 ?a9 ?l9 ?e9 ?k9 ?a10 ?l10 ?e10 ?k10 ?a11 ?l11 ?e11 ?k11 ?a12 ?l12 ?e12 ?k12 ?a13 ?l13 ?e13 ?k13 ?aF ?lF ?z0 ?z1 ?z2 ?z3 ?z4 ?z5 ?z6 ?z7 ?z8 ?z9 ?z10 ?z11 ?z12 ?z13
    (case a0 => k_is)
    (case l0 => k_is)
    (case e0 => k_is)
    (case k0 => k_is)
    (case a1 => k_is)
    (case l1 => k_is)
    (case e1 => k_is)
    (case k1 => k_is)
    (case a2 => k_is)
    (case l2 => k_is)
    (case e2 => k_is)
    (case k2 => k_is)
    (case a3 => k_is)
    (case l3 => k_is)
    (case e3 => k_is)
    (case k3 => k_is)
    (case a4 => k_is)
    (case l4 => k_is)
    (case e4 => k_is)
    (case k4 => k_is)
    (case a5 => k_is)
    (case l5 => k_is)
    (case e5 => k_is)
    (case k5 => k_is)
    (case a6 => k_is)
    (case l6 => k_is)
    (case e6 => k_is)
    (case k6 => k_is)
    (case a7 => k_is)
    (case l7 => k_is)
    (case e7 => k_is)
    (case k7 => k_is)
    (case a8 => k_is)
    (case l8 => k_is)
    (case e8 => k_is)
    (case k8 => k_is)
    (case a9 => k_is)
    (case l9 => k_is)
    (case e9 => k_is)
    (case k9 => k_is)
    (case a10 => k_is)
    (case l10 => k_is)
    (case e10 => k_is)
    (case k10 => k_is)
    (case a11 => k_is)
    (case l11 => k_is)
    (case e11 => k_is)
    (case k11 => k_is)
    (case a12 => k_is)
    (case l12 => k_is)
    (case e12 => k_is)
    (case k12 => k_is)
    (case a13 => k_is)
    (case l13 => k_is)
    (case e13 => k_is)
    (case k13 => k_is)
    (case aF => k_is)
    (case lF => k_is)
    (case z0 => k_is)
    (case z1 => k_is)
    (case z2 => k_is)
    (case z3 => k_is)
    (case z4 => k_is)
    (case z5 => k_is)
    (case z6 => k_is)
    (case z7 => k_is)
    (case z8 => k_is)
    (case z9 => k_is)
    (case z10 => k_is)
    (case z11 => k_is)
    (case z12 => k_is)
    (case z13 => k_is)
#print axioms PySem.Challenge.cw_kindalone_k73_worths_mapped_holds
