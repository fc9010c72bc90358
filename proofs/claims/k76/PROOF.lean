import PyProof.Rows.All
import Wide.All
import OpenK.AllK
import Wide.FinOn
import HandS.ForMost
import HandS.TupAny
import HandS.Wide
import HandS.Deep
import HandS.Conv
import HandS.IsInst
import KE.KDictPairs
import HandS.Rev
import HandS.Iter
import HandS.Defaults
import HandS.Words
import HandS.Ends
import KE.GoesZip
import KE.GoesMore
import KE.GoesEnum
import HandS.More
import HandS.WordsDict
import HandS.Text
import PyProof.ReprRoads
import HandS.Zip
import OpenK.KTop
import KE.KDictList
import PyProof.EnumMake
import HandS.Style
import PySem.Challenge.RW_kindalone_k76_more_rounds_in_terms
import PyProof.StrLawsRepr
import PyProof.FitsInt
set_option Elab.async false
set_option linter.all false
set_option maxRecDepth 100000
/-! TL0: a layer of pure values (T) over the hand layer: relations, judgements, going over and back. -/
namespace TL
open PySem PySem.Spec PyProof.Rows L2

/-- a value as the law's reader sees it: tuples are trees, everything mutable is an address -/
inductive T where
  | non | bl (b : Bool) | int (i : Int) | str (x : Str) | tup (xs : List T) | fl (xs : List T) | adr (a : Addr)
instance : Inhabited T := ⟨.non⟩

/-- the program, the world, the written part -/
structure Zk where
  P : Program
  w : World
  K : PySem.W.Frag
abbrev zx (X : Cx) : Zk := ⟨X.prog, X.w, X.K⟩
/-- what stands at an address -/
inductive MO where
  | lst (xs : List T)
  | ro (xs : List T)
  | dk (kvs : List (Key × T))
  | dx (kvs : List (List Key × T))
  | fk (kvs : List (Key × T))
abbrev Sto := Addr → Option MO
def Sto.set (S : Sto) (a : Addr) (o : MO) : Sto := fun b => if b = a then some o else S b
/-- one object is written -/
structure Upd (S : Sto) (a : Addr) (o : MO) (S' : Sto) : Prop where
  at_ : S' a = some o
  off : ∀ b, b ≠ a → S' b = S b
theorem set_same {S : Sto} {a : Addr} {o : MO} : (S.set a o) a = some o := by unfold Sto.set; rw [if_pos rfl]
theorem set_ne {S : Sto} {a b : Addr} {o : MO} (h : b ≠ a) : (S.set a o) b = S b := by unfold Sto.set; rw [if_neg h]
theorem Upd.of {S : Sto} {a : Addr} {o : MO} : Upd S a o (S.set a o) := ⟨set_same, fun b h => set_ne h⟩
/-- a new object -/
def NewO (S : Sto) (o : MO) (Q : T → Sto → Prop) : Prop := ∀ (p : Addr) (S' : Sto), S p = none → Upd S p o S' → Q (.adr p) S'
theorem NewO.at {S : Sto} {o : MO} {Q : T → Sto → Prop} (q : NewO S o Q) {p : Addr} (h : S p = none) : Q (.adr p) (S.set p o) := q p _ h .of

/-- a list that nobody may write -/
def SqF (K : PySem.W.Frag) (H : Hp) (a : Addr) (xs : List V) : Prop := (∃ o, H a = some (.frz o (.lst xs))) ∨
  ∃ (o : Obj) (its : Array Value) (n : Nat), K.lookup a = some o ∧ o.cls = .type "list" ∧ o.dict = none ∧ o.data = .seq its n ∧ its.size ≤ sizeLine ∧ Vals xs its.toList
theorem SqF.sqL {K : PySem.W.Frag} {H : Hp} {a : Addr} {xs : List V} (h : SqF K H a xs) : SqL K H a xs := h.imp (fun h => .inr h) id
/-- a tuple that carries no dict -/
def SqP (K : PySem.W.Frag) (H : Hp) (a : Addr) (xs : List V) : Prop := (∃ o, H a = some (.frz o (.tup xs)) ∧ o.dict = none) ∨
  ∃ (o : Obj) (its : Array Value) (n : Nat), K.lookup a = some o ∧ o.cls = .type "tuple" ∧ o.dict = none ∧ o.data = .seq its n ∧ its.size ≤ sizeLine ∧ Vals xs its.toList
theorem SqP.sqT {K : PySem.W.Frag} {H : Hp} {a : Addr} {xs : List V} (h : SqP K H a xs) : SqT K H a xs := h.imp (fun ⟨o, h, _⟩ => .inr ⟨o, h⟩) fun ⟨o, its, n, h1, h2, _, h4, h5, h6⟩ => ⟨o, its, n, h1, h2, h4, h5, h6⟩
mutual
def RT (K : Zk) (H : Hp) : T → V → Prop
  | .non, v => v = .non
  | .bl b, v => v = .bl b
  | .int i, v => v = .int i
  | .str x, v => v = .str x
  | .tup ts, v => ∃ a vs, v = .ref a ∧ SqP K.K H a vs ∧ RTs K H ts vs
  | .fl ts, v => ∃ a vs, v = .ref a ∧ SqF K.K H a vs ∧ RTs K H ts vs
  | .adr a, v => v = .ref a
def RTs (K : Zk) (H : Hp) : List T → List V → Prop
  | [], vs => vs = []
  | t :: ts, vs => ∃ v r, vs = v :: r ∧ RT K H t v ∧ RTs K H ts r
end
section
variable {K : Zk} {H : Hp}
theorem rt_non {v : V} : RT K H .non v = (v = .non) := by unfold RT; rfl
theorem rt_bl {b : Bool} {v : V} : RT K H (.bl b) v = (v = .bl b) := by unfold RT; rfl
theorem rt_int {i : Int} {v : V} : RT K H (.int i) v = (v = .int i) := by unfold RT; rfl
theorem rt_str {x : Str} {v : V} : RT K H (.str x) v = (v = .str x) := by unfold RT; rfl
theorem rt_adr {a : Addr} {v : V} : RT K H (.adr a) v = (v = .ref a) := by unfold RT; rfl
theorem rt_tup {ts : List T} {v : V} : RT K H (.tup ts) v = (∃ a vs, v = .ref a ∧ SqP K.K H a vs ∧ RTs K H ts vs) := by
  conv => lhs; unfold RT
theorem rt_fl {ts : List T} {v : V} : RT K H (.fl ts) v = (∃ a vs, v = .ref a ∧ SqF K.K H a vs ∧ RTs K H ts vs) := by
  conv => lhs; unfold RT
theorem rts_nil {vs : List V} : RTs K H [] vs = (vs = []) := by unfold RTs; rfl
theorem rts_cons {t : T} {ts : List T} {vs : List V} : RTs K H (t :: ts) vs = (∃ v r, vs = v :: r ∧ RT K H t v ∧ RTs K H ts r) := by
  conv => lhs; unfold RTs
theorem RTs.nil : RTs K H [] [] := by rw [rts_nil]
theorem RTs.cons {t : T} {ts : List T} {v : V} {vs : List V} (h : RT K H t v) (r : RTs K H ts vs) : RTs K H (t :: ts) (v :: vs) := by
  rw [rts_cons]; exact ⟨v, vs, rfl, h, r⟩
theorem RTs.uncons {t : T} {ts : List T} {v : V} {vs : List V} (h : RTs K H (t :: ts) (v :: vs)) : RT K H t v ∧ RTs K H ts vs := by
  rw [rts_cons] at h
  obtain ⟨v', r, e, h1, h2⟩ := h
  injection e with e1 e2
  subst e1; subst e2
  exact ⟨h1, h2⟩
theorem RTs.length : ∀ {ts : List T} {vs : List V}, RTs K H ts vs → ts.length = vs.length
  | [], vs, h => by rw [rts_nil] at h; subst h; rfl
  | t :: ts, vs, h => by
    rw [rts_cons] at h
    obtain ⟨v, r, rfl, _, h2⟩ := h
    simp [RTs.length h2]
theorem RTs.get : ∀ {ts : List T} {vs : List V} {i : Nat} {t : T}, RTs K H ts vs → ts[i]? = some t → ∃ v, vs[i]? = some v ∧ RT K H t v
  | [], _, _, _, _, e => by simp at e
  | t :: ts, vs, i, x, h, e => by
    rw [rts_cons] at h
    obtain ⟨v, r, rfl, h1, h2⟩ := h
    cases i with
    | zero => simp at e; subst e; exact ⟨v, by simp, h1⟩
    | succ i => simpa using RTs.get (i := i) h2 (by simpa using e)
theorem RTs.get' : ∀ {ts : List T} {vs : List V} {i : Nat} {v : V}, RTs K H ts vs → vs[i]? = some v → ∃ t, ts[i]? = some t ∧ RT K H t v
  | [], vs, _, _, h, e => by rw [rts_nil] at h; subst h; simp at e
  | t :: ts, vs, i, x, h, e => by
    rw [rts_cons] at h
    obtain ⟨v, r, rfl, h1, h2⟩ := h
    cases i with
    | zero => simp at e; subst e; exact ⟨t, by simp, h1⟩
    | succ i => simpa using RTs.get' (i := i) h2 (by simpa using e)
theorem RTs.append : ∀ {ts us : List T} {vs ws : List V}, RTs K H ts vs → RTs K H us ws → RTs K H (ts ++ us) (vs ++ ws)
  | [], us, vs, ws, h, g => by rw [rts_nil] at h; subst h; exact g
  | t :: ts, us, vs, ws, h, g => by
    rw [rts_cons] at h
    obtain ⟨v, r, rfl, h1, h2⟩ := h
    exact .cons h1 (RTs.append h2 g)
theorem RTs.take : ∀ {ts : List T} {vs : List V} (n : Nat), RTs K H ts vs → RTs K H (ts.take n) (vs.take n)
  | [], vs, n, h => by rw [rts_nil] at h; subst h; simp; exact .nil
  | t :: ts, vs, 0, h => by simp; exact .nil
  | t :: ts, vs, n + 1, h => by
    rw [rts_cons] at h
    obtain ⟨v, r, rfl, h1, h2⟩ := h
    exact .cons h1 (RTs.take n h2)
theorem RTs.drop : ∀ {ts : List T} {vs : List V} (n : Nat), RTs K H ts vs → RTs K H (ts.drop n) (vs.drop n)
  | [], vs, n, h => by rw [rts_nil] at h; subst h; simp; exact .nil
  | t :: ts, vs, 0, h => h
  | t :: ts, vs, n + 1, h => by
    rw [rts_cons] at h
    obtain ⟨v, r, rfl, h1, h2⟩ := h
    exact RTs.drop n h2
theorem RTs.set {t : T} {v : V} (q : RT K H t v) : ∀ {ts : List T} {vs : List V} (n : Nat), RTs K H ts vs → RTs K H (ts.set n t) (vs.set n v)
  | [], vs, n, h => by rw [rts_nil] at h; subst h; simp; exact .nil
  | s :: ts, vs, n, h => by
    rw [rts_cons] at h
    obtain ⟨w, r, rfl, h1, h2⟩ := h
    cases n with
    | zero => exact .cons q h2
    | succ n => exact .cons h1 (RTs.set q n h2)
theorem RTs.reverse : ∀ {ts : List T} {vs : List V}, RTs K H ts vs → RTs K H ts.reverse vs.reverse
  | [], vs, h => by rw [rts_nil] at h; subst h; exact .nil
  | t :: ts, vs, h => by
    rw [rts_cons] at h
    obtain ⟨v, r, rfl, h1, h2⟩ := h
    rw [List.reverse_cons, List.reverse_cons]
    exact (RTs.reverse h2).append (.cons h1 .nil)
theorem RTs.ints : ∀ {ns : List Int} {vs : List V}, RTs K H (ns.map T.int) vs → vs = ns.map V.int
  | [], vs, h => by rw [List.map_nil, rts_nil] at h; exact h
  | n :: ns, vs, h => by
    rw [List.map_cons, rts_cons] at h
    obtain ⟨v, r, rfl, h1, h2⟩ := h
    rw [rt_int] at h1
    rw [h1, RTs.ints h2, List.map_cons]
theorem RTs.of_ints : ∀ {ns : List Int}, RTs K H (ns.map T.int) (ns.map V.int)
  | [] => .nil
  | n :: ns => .cons (by rw [rt_int]) RTs.of_ints
theorem RTs.strs : ∀ {ns : List Str} {vs : List V}, RTs K H (ns.map T.str) vs → vs = ns.map V.str
  | [], vs, h => by rw [List.map_nil, rts_nil] at h; exact h
  | n :: ns, vs, h => by
    rw [List.map_cons, rts_cons] at h
    obtain ⟨v, r, rfl, h1, h2⟩ := h
    rw [rt_str] at h1
    rw [h1, RTs.strs h2, List.map_cons]
theorem RTs.of_strs : ∀ {ns : List Str}, RTs K H (ns.map T.str) (ns.map V.str)
  | [] => .nil
  | n :: ns => .cons (by rw [rt_str]) RTs.of_strs
theorem RTs.flatrep {ts : List T} {vs : List V} (h : RTs K H ts vs) : ∀ n, RTs K H (List.replicate n ts).flatten (List.replicate n vs).flatten
  | 0 => .nil
  | n + 1 => by
    rw [List.replicate_succ, List.replicate_succ, List.flatten_cons, List.flatten_cons]
    exact h.append (RTs.flatrep h n)
end

/-- what may be read stays -/
structure Ext (H H' : Hp) : Prop where
  tups : ∀ a xs, H a = some (.tup xs) → H' a = some (.tup xs)
  frzs : ∀ a o u, H a = some (.frz o u) → H' a = some (.frz o u)
theorem Ext.refl (H : Hp) : Ext H H := ⟨fun _ _ h => h, fun _ _ _ h => h⟩
theorem Ext.trans {H H1 H2 : Hp} (a : Ext H H1) (b : Ext H1 H2) : Ext H H2 := ⟨fun c xs h => b.tups c xs (a.tups c xs h), fun c o u h => b.frzs c o u (a.frzs c o u h)⟩
theorem Ext.new {H : Hp} {p : Addr} {o : HO} (h : H p = none) : Ext H (upd H p o) :=
  ⟨fun a xs e => by rw [upd_ne (ne_of_none e h)]; exact e, fun a xs u e => by rw [upd_ne (ne_of_none e h)]; exact e⟩
/-- an object that is neither a tuple nor locked is written -/
theorem Ext.write {H : Hp} {p : Addr} {o o' : HO} (h : H p = some o) (h1 : ∀ xs, o ≠ .tup xs) (h2 : ∀ b u, o ≠ .frz b u) : Ext H (upd H p o') :=
  ⟨fun a xs e => by rw [upd_ne (ne_of e h (Ne.symm (h1 xs)))]; exact e, fun a b u e => by rw [upd_ne (ne_of e h (Ne.symm (h2 b u)))]; exact e⟩
section
variable {K : Zk} {H H' : Hp}
theorem Ext.sqT (x : Ext H H') {a : Addr} {vs : List V} (h : SqT K.K H a vs) : SqT K.K H' a vs := by
  rcases h with (h | ⟨o, h⟩) | h
  · exact .inl (.inl (x.tups _ _ h))
  · exact .inl (.inr ⟨o, x.frzs _ _ _ h⟩)
  · exact .inr h
theorem Ext.sqP (x : Ext H H') {a : Addr} {vs : List V} (h : SqP K.K H a vs) : SqP K.K H' a vs := h.imp (fun ⟨o, h, d⟩ => ⟨o, x.frzs _ _ _ h, d⟩) id
theorem Ext.sqF (x : Ext H H') {a : Addr} {vs : List V} (h : SqF K.K H a vs) : SqF K.K H' a vs := h.imp (fun ⟨o, h⟩ => ⟨o, x.frzs _ _ _ h⟩) id
mutual
theorem RT.ext (x : Ext H H') : ∀ (t : T) {v : V}, RT K H t v → RT K H' t v
  | .non, _, h => by rw [rt_non] at h ⊢; exact h
  | .bl b, _, h => by rw [rt_bl] at h ⊢; exact h
  | .int i, _, h => by rw [rt_int] at h ⊢; exact h
  | .str s, _, h => by rw [rt_str] at h ⊢; exact h
  | .adr a, _, h => by rw [rt_adr] at h ⊢; exact h
  | .tup ts, _, h => by
    rw [rt_tup] at h ⊢
    obtain ⟨a, vs, e, h1, h2⟩ := h
    exact ⟨a, vs, e, x.sqP h1, RTs.ext x ts h2⟩
  | .fl ts, _, h => by
    rw [rt_fl] at h ⊢
    obtain ⟨a, vs, e, h1, h2⟩ := h
    exact ⟨a, vs, e, x.sqF h1, RTs.ext x ts h2⟩
theorem RTs.ext (x : Ext H H') : ∀ (ts : List T) {vs : List V}, RTs K H ts vs → RTs K H' ts vs
  | [], _, h => by rw [rts_nil] at h ⊢; exact h
  | t :: ts, _, h => by
    rw [rts_cons] at h ⊢
    obtain ⟨v, r, e, h1, h2⟩ := h
    exact ⟨v, r, e, RT.ext x t h1, RTs.ext x ts h2⟩
end
end

/-- dicts -/
def DxAt (K : Zk) (a : Addr) (xs : List (List Key × Addr × Value)) : Heap → Prop := fun h =>
  (a == sysModules) = false ∧ xs.length ≤ sizeLine ∧ ∃ o es ep, h.get? a = some o ∧ o.ExactDict ∧ o.data = .dict es ep ∧ es.toList = xs.map (entryOfKey (tupleKind (mixKind K.P K.w))) ∧ (xs.map (·.1)).Nodup
abbrev RXs (K : Zk) (H : Hp) : List (List Key × T) → List (List Key × Addr × Value) → Prop :=
  Paired fun p q => p.1 = q.1 ∧ SqT K.K H q.2.1 (p.1.map kV) ∧ ∃ v, RelV v q.2.2 ∧ RT K H p.2 v
abbrev RKs {κ : Type} (K : Zk) (H : Hp) : List (κ × T) → List (κ × V) → Prop := Paired fun p q => p.1 = q.1 ∧ RT K H p.2 q.2
def RO (K : Zk) (H : Hp) (a : Addr) : MO → Prop
  | .lst xs => ∃ vs, H a = some (.lst vs) ∧ RTs K H xs vs
  | .ro xs => ∃ vs, Rd H a (.lst vs) ∧ RTs K H xs vs
  | .dk kvs => ∃ kv, H a = some (.dK kv) ∧ RKs K H kvs kv
  | .dx kvs => ∃ xs, H a = some (.ext (DxAt K a xs)) ∧ RXs K H kvs xs
  | .fk kvs => ∃ o kv, H a = some (.frz o (.dK kv)) ∧ RKs K H kvs kv
def RelS (K : Zk) (S : Sto) (H : Hp) : Prop := ∀ a o, S a = some o → RO K H a o
abbrev Rho := List (Option T)
def RelE (K : Zk) (H : Hp) (σ : L2.St) (ρ : Rho) : Prop := σ.length = ρ.length ∧ ∀ (i : Nat) (t : T), ρ[i]? = some (some t) → ∃ v, σ[i]? = some (some v) ∧ RT K H t v
section
variable {K : Zk} {H H' : Hp} {S : Sto} {σ : L2.St} {ρ : Rho}
theorem RKs.ext {κ : Type} (x : Ext H H') : ∀ {kvs : List (κ × T)} {kv : List (κ × V)}, RKs K H kvs kv → RKs K H' kvs kv
  | _, _, .nil => .nil
  | _, _, .cons r t => .cons ⟨r.1, RT.ext x _ r.2⟩ (RKs.ext x t)
theorem RXs.ext (x : Ext H H') : ∀ {kvs : List (List Key × T)} {kv : List (List Key × Addr × Value)}, RXs K H kvs kv → RXs K H' kvs kv
  | _, _, .nil => .nil
  | _, _, .cons r t => .cons ⟨r.1, x.sqT r.2.1, let ⟨v, a, b⟩ := r.2.2; ⟨v, a, RT.ext x _ b⟩⟩ (RXs.ext x t)
theorem RO.some {a : Addr} {o : MO} (h : RO K H a o) : ∃ u, H a = some u := by
  cases o with
  | lst xs => obtain ⟨vs, e, _⟩ := h; exact ⟨_, e⟩
  | ro xs => obtain ⟨vs, e, _⟩ := h; rcases e with e | ⟨o, e⟩ <;> exact ⟨_, e⟩
  | dk kvs => obtain ⟨vs, e, _⟩ := h; exact ⟨_, e⟩
  | dx kvs => obtain ⟨vs, e, _⟩ := h; exact ⟨_, e⟩
  | fk kvs => obtain ⟨o, vs, e, _⟩ := h; exact ⟨_, e⟩
theorem RO.keep {a : Addr} {o : MO} (h : RO K H a o) (x : Ext H H') (e : H' a = H a) : RO K H' a o := by
  cases o with
  | lst xs => obtain ⟨vs, h1, h2⟩ := h; exact ⟨vs, e.trans h1, RTs.ext x _ h2⟩
  | ro xs =>
    obtain ⟨vs, h1, h2⟩ := h
    refine ⟨vs, ?_, RTs.ext x _ h2⟩
    rcases h1 with h1 | ⟨o, h1⟩
    · exact .inl (e.trans h1)
    · exact .inr ⟨o, e.trans h1⟩
  | dk kvs => obtain ⟨vs, h1, h2⟩ := h; exact ⟨vs, e.trans h1, h2.ext x⟩
  | dx kvs => obtain ⟨vs, h1, h2⟩ := h; exact ⟨vs, e.trans h1, h2.ext x⟩
  | fk kvs => obtain ⟨o, vs, h1, h2⟩ := h; exact ⟨o, vs, e.trans h1, h2.ext x⟩
theorem RelS.none_of (r : RelS K S H) {p : Addr} (h : H p = none) : S p = none := by
  cases e : S p with
  | none => rfl
  | some o =>
    obtain ⟨u, q⟩ := (r p o e).some
    rw [h] at q; cases q
/-- a new untracked object does not matter -/
theorem RelS.new (r : RelS K S H) {p : Addr} {o : HO} (h : H p = none) : RelS K S (upd H p o) := fun a m e =>
  (r a m e).keep (.new h) (by
    obtain ⟨u, q⟩ := (r a m e).some
    rw [upd_ne (ne_of_none q h)])
/-- an object is laid or written -/
theorem RelS.put (r : RelS K S H) {p : Addr} {m : MO} {o : HO} (x : Ext H (upd H p o)) (h : RO K (upd H p o) p m) : RelS K (S.set p m) (upd H p o) := fun a u e => by
  by_cases hp : a = p
  · subst hp; rw [set_same] at e; cases e; exact h
  · rw [set_ne hp] at e
    exact (r a u e).keep x (upd_ne hp)
theorem RelE.ext (r : RelE K H σ ρ) (x : Ext H H') : RelE K H' σ ρ := ⟨r.1, fun i t e => by
  obtain ⟨v, h1, h2⟩ := r.2 i t e
  exact ⟨v, h1, RT.ext x _ h2⟩⟩
theorem RelE.set (r : RelE K H σ ρ) {t : T} {v : V} (h : RT K H t v) (i : Nat) : RelE K H (σ.set i (some v)) (ρ.set i (some t)) := by
  refine ⟨by rw [List.length_set, List.length_set]; exact r.1, fun j u e => ?_⟩
  by_cases hj : i = j
  · subst hj
    have hl : i < ρ.length := by
      rcases Nat.lt_or_ge i ρ.length with z | z
      · exact z
      · rw [List.getElem?_eq_none (by simpa using z)] at e; cases e
    rw [List.getElem?_set_self hl] at e
    cases e
    exact ⟨v, by rw [List.getElem?_set_self (by rw [r.1]; exact hl)], h⟩
  · rw [List.getElem?_set_ne hj] at e ⊢
    exact r.2 j u e
theorem RelE.setNone (r : RelE K H σ ρ) (i : Nat) : RelE K H (σ.set i none) (ρ.set i none) := by
  refine ⟨by rw [List.length_set, List.length_set]; exact r.1, fun j u e => ?_⟩
  by_cases hj : i = j
  · subst hj
    rcases Nat.lt_or_ge i ρ.length with z | z
    · rw [List.getElem?_set_self z] at e; cases e
    · rw [List.getElem?_eq_none (by simpa using z)] at e; cases e
  · rw [List.getElem?_set_ne hj] at e ⊢
    exact r.2 j u e
def wipeT (ρ : Rho) : List Nat → Rho
  | [] => ρ
  | v :: vs => (wipeT ρ vs).set v none
theorem RelE.wipe (r : RelE K H σ ρ) : ∀ vs : List Nat, RelE K H (L2.wipe σ vs) (wipeT ρ vs)
  | [] => r
  | v :: vs => by
    unfold L2.wipe wipeT
    exact (RelE.wipe r vs).setNone v
def startT (n : Nat) (ts : List T) : Rho := ts.map some ++ List.replicate (n - ts.length) none
theorem RelE.start {N : List Str} : ∀ {ts : List T} {vs : List V}, RTs K H ts vs → RelE K H (L2.start N vs) (startT N.length ts) := fun {ts vs} h => by
  have hl := h.length
  refine ⟨?_, fun i t e => ?_⟩
  · unfold L2.start startT
    simp only [List.length_append, List.length_map, List.length_replicate, hl]
  · unfold startT at e
    unfold L2.start
    rcases Nat.lt_or_ge i ts.length with z | z
    · rw [List.getElem?_append_left (by simpa using z), List.getElem?_map] at e
      obtain ⟨v, h1, h2⟩ := h.get (i := i) (t := t) (by
        cases q : ts[i]? with
        | none => rw [q] at e; simp at e
        | some u => rw [q] at e; simp at e; rw [e])
      exact ⟨v, by rw [List.getElem?_append_left (by simpa [← hl] using z), List.getElem?_map, h1]; rfl, h2⟩
    · rw [List.getElem?_append_right (by simpa using z), List.getElem?_replicate] at e
      split at e <;> cases e
end
end TL
set_option Elab.async false
set_option linter.all false
set_option maxRecDepth 100000
/-! TLt: new tuples, known to the object (they carry no dict). -/
namespace TL
open PySem PySem.Spec PyProof.Rows L2
abbrev tupOb (us : List Value) : Obj := { cls := .type "tuple", data := .seq us.toArray }
section
variable {X : Cx} {pins : List (Addr × Obj)} {σ : L2.St} {H : Hp} {s : Shared}
theorem frz_ok {P : Program} {w : World} {H' : Hp} {h : Heap} {p : Addr} {xs : List V} {us : List Value} (hz : xs.length ≤ sizeLine) (r : Vals xs us) (e : h.get? p = some (tupOb us)) : ObjOk P w H' h p (.frz (tupOb us) (.tup xs)) :=
  ⟨e, hz, us, r, ⟨_, e, rfl, _, rfl⟩⟩
theorem laid_tup (I : Inv X pins σ H s) {xs : List V} {us : List Value} (hz : xs.length ≤ sizeLine) (r : Vals xs us) :
    Inv X pins σ (upd H s.heap.objs.size (.frz (tupOb us) (.tup xs))) { s with heap := s.heap.push (tupOb us) } :=
  I.laid (t' := s.toks) (o := .frz (tupOb us) (.tup xs)) (fun b u e => Heap.get?_push_of_some _ e) (Nat.le_refl _) (frz_ok hz r (Heap.get?_push_size _ rfl))
/-- a new tuple xs is told -/
abbrev NewT (H : Hp) (xs : List V) (Q : VK) : Prop := ∀ p ob, H p = none → ob.dict = none → Q (.ref p) (upd H p (.frz ob (.tup xs)))
def tTupF (t : TA) : TE := fun σ H Q => t σ H fun xs H1 => xs.length ≤ sizeLine ∧ NewT H1 xs Q
theorem pe_tupF {es : List Expr} {t : TA} {x1} {pos : Pos} (h : PA X es t) : PE X (.Tuple es x1 pos) (tTupF t) := by
  refine ⟨fun pins s σ H Q I hq => ?_⟩
  refine wpAny_Tuple_spliced (thn (h.run pos pins s σ H _ I hq) fun us s1 ⟨xs, H1, I1, r, z, q⟩ => ⟨by rw [← r.length]; exact z, ?_⟩)
  exact ⟨.ref s1.heap.objs.size, _, laid_tup I1 z r, rfl, q _ _ (I1.hok.fresh (Nat.le_refl _)) rfl⟩
def rCatF (K : PySem.W.Frag) : R2 := fun x y H Q => ∃ a b xs ys, x = .ref a ∧ y = .ref b ∧ SqT K H a xs ∧ SqT K H b ys ∧ xs.length + ys.length ≤ sizeLine ∧
  (xs = [] → Q (.ref b) H) ∧ (xs ≠ [] → ys = [] → Q (.ref a) H) ∧ (xs ≠ [] → ys ≠ [] → NewT H (xs ++ ys) Q)
theorem op_catF : OpR X (binaryOp .Add) (rCatF X.K) := by
  intro pins s σ H x y v u Q I rx ry h
  obtain ⟨a, b, xs, ys, rfl, rfl, ha, hb, hz, q0, q1, q2⟩ := h
  cases rx
  cases ry
  obtain ⟨its, r1, p1, _⟩ := I.tuple ha
  obtain ⟨its2, r2, p2, _⟩ := I.tuple hb
  by_cases hx : xs = []
  · subst hx
    cases r1
    exact cat_tup0 p1 p2 ⟨.ref b, H, I, rfl, q0 rfl⟩
  · refine HT.cat_tup p1 p2 (fun z => hx (r1.nil_iff.mp z)) (fun z => ⟨.ref a, H, I, rfl, q1 hx (r2.nil_iff.mp z)⟩) (fun z => ?_) (by rw [← r1.length, ← r2.length]; exact hz)
    exact ⟨.ref s.heap.objs.size, _, laid_tup I (by rw [List.length_append]; exact hz) (r1.append r2), rfl, q2 hx (fun w => z (r2.nil_iff.mpr w)) _ _ (I.hok.fresh (Nat.le_refl _)) rfl⟩
def rSlF (K : PySem.W.Frag) : V → Option Int → Option Int → Hp → VK → Prop := fun x lo hi H Q => ∃ a xs, x = .ref a ∧ SqT K H a xs ∧
  (HT.sIx xs.length 0 lo = 0 ∧ HT.sIx xs.length xs.length hi = xs.length → Q (.ref a) H) ∧ (¬ (HT.sIx xs.length 0 lo = 0 ∧ HT.sIx xs.length xs.length hi = xs.length) → NewT H (cutV xs lo hi) Q)
theorem sl_tupF : SlR X (rSlF X.K) := by
  intro pins s σ H x v vl vu lo hi sl Q I rx hs pl pu h
  obtain ⟨a, xs, rfl, hx, q1, q2⟩ := h
  cases rx
  obtain ⟨its, r, ht, hz⟩ := I.tuple hx
  have hlen : its.toArray.size = xs.length := by rw [List.size_toArray]; exact r.length.symm
  refine ⟨"tuple", _, PyProof.Rows.slot_tuple_getitem.lookup, ht.typeIs, ?_⟩
  by_cases hw : HT.sIx xs.length 0 lo = 0 ∧ HT.sIx xs.length xs.length hi = xs.length
  · exact getItem_tuple_whole ht hs pl pu (by rw [hlen]; exact hw) ⟨.ref a, H, I, rfl, q1 hw⟩
  · refine HT.getItem_tuple_cut ht hs pl pu (by rw [hlen]; exact hw) ?_ (by rw [hlen]; exact hz)
    rw [hlen]
    exact ⟨.ref s.heap.objs.size, _, laid_tup I (Nat.le_trans (cutV_length xs lo hi) hz) ((r.drop (HT.sIx xs.length 0 lo)).take (HT.sIx xs.length xs.length hi - HT.sIx xs.length 0 lo)), rfl, q2 hw _ _ (I.hok.fresh (Nat.le_refl _)) rfl⟩
theorem call_tupleF : CallR X (.type "tuple") (fun xs H Q => ∃ p ys, xs = [.ref p] ∧ ((SqL X.K H p ys ∧ NewT H ys Q) ∨ (SqT X.K H p ys ∧ Q (.ref p) H))) := by
  intro pins s σ H xs us Q I r h
  obtain ⟨p, ys, rfl, h⟩ := h
  obtain ⟨u, rfl, rx⟩ := vals1 r
  cases rx
  rcases h with ⟨hq, q⟩ | ⟨hq, q⟩
  · obtain ⟨its, r', pl, hz⟩ := I.list hq
    have hlen := r'.length
    refine call_tuple_list pl.isList (fun h' kp => ?_) (by simp only [List.size_toArray] <;> omega)
    have I1 : Inv X pins σ H { s with heap := h' } := I.kept (t' := s.toks) kp
    exact ⟨.ref h'.objs.size, _, laid_tup I1 hz r', rfl, q _ _ (I1.hok.fresh (Nat.le_refl _)) rfl⟩
  · obtain ⟨its, r', pl, hz⟩ := I.tuple hq
    exact call_tuple_same pl ⟨.ref p, H, I, rfl, q⟩
end
end TL
set_option Elab.async false
set_option linter.all false
set_option maxRecDepth 100000
/-! TL1: judgements over T: expressions, tests, arguments, statements, targets, walks; going from the hand layer's rules to these. -/
namespace TL
open PySem PySem.Spec PyProof.Rows L2

abbrev TTE := Rho → Sto → (T → Sto → Prop) → Prop
abbrev TTT := Rho → Sto → (Bool → Sto → Prop) → Prop
abbrev TTA := Rho → Sto → (List T → Sto → Prop) → Prop
structure EndsT where
  nx : Rho → Sto → Prop
  rt : T → Sto → Prop
  bk : Rho → Sto → Prop := fun _ _ => False
  ct : Rho → Sto → Prop := fun _ _ => False
abbrev TTS := EndsT → Rho → Sto → Prop
abbrev TTG := T → Rho → Sto → (Rho → Sto → Prop) → Prop
abbrev TTGs := List T → Rho → Sto → (Rho → Sto → Prop) → Prop
structure Src where
  items : List T
  live : Sto → Prop
abbrev TTI := Rho → Sto → (Src → Sto → Prop) → Prop

section
variable (K : Zk)
/-- what is wanted, seen from the heap ahead -/
def WE (H : Hp) (Q : T → Sto → Prop) : VK := fun v H' => ∃ r S', Ext H H' ∧ RelS K S' H' ∧ RT K H' r v ∧ Q r S'
def WT (H : Hp) (Q : Bool → Sto → Prop) : Bool → Hp → Prop := fun b H' => ∃ S', Ext H H' ∧ RelS K S' H' ∧ Q b S'
def WA (H : Hp) (Q : List T → Sto → Prop) : List V → Hp → Prop := fun vs H' => ∃ r S', Ext H H' ∧ RelS K S' H' ∧ RTs K H' r vs ∧ Q r S'
def WR (H : Hp) (Q : Rho → Sto → Prop) : L2.St → Hp → Prop := fun σ' H' => ∃ ρ' S', Ext H H' ∧ RelS K S' H' ∧ RelE K H' σ' ρ' ∧ Q ρ' S'
def WD (H : Hp) (D : EndsT) : Ends := { nx := WR K H D.nx, rt := WE K H D.rt, bk := WR K H D.bk, ct := WR K H D.ct }
def LE (t : TTE) : TE := fun σ H Q => ∃ ρ S Q', RelS K S H ∧ RelE K H σ ρ ∧ t ρ S Q' ∧ ∀ v H', WE K H Q' v H' → Q v H'
def LT (t : TTT) : TT := fun σ H Q => ∃ ρ S Q', RelS K S H ∧ RelE K H σ ρ ∧ t ρ S Q' ∧ ∀ v H', WT K H Q' v H' → Q v H'
def LA (t : TTA) : TA := fun σ H Q => ∃ ρ S Q', RelS K S H ∧ RelE K H σ ρ ∧ t ρ S Q' ∧ ∀ v H', WA K H Q' v H' → Q v H'
def LS (t : TTS) : TS := fun D σ H => ∃ ρ S D', RelS K S H ∧ RelE K H σ ρ ∧ t D' ρ S ∧ (∀ σ' H', WR K H D'.nx σ' H' → D.nx σ' H') ∧ (∀ v H', WE K H D'.rt v H' → D.rt v H') ∧
  (∀ σ' H', WR K H D'.bk σ' H' → D.bk σ' H') ∧ (∀ σ' H', WR K H D'.ct σ' H' → D.ct σ' H')
def LG (t : TTG) : TG := fun v σ H Q => ∃ r ρ S Q', RelS K S H ∧ RelE K H σ ρ ∧ RT K H r v ∧ t r ρ S Q' ∧ ∀ σ' H', WR K H Q' σ' H' → Q σ' H'
def LGs (t : TTGs) : TGs := fun v σ H Q => ∃ r ρ S Q', RelS K S H ∧ RelE K H σ ρ ∧ RTs K H r v ∧ t r ρ S Q' ∧ ∀ σ' H', WR K H Q' σ' H' → Q σ' H'
structure Fits (H1 : Hp) (J : It) (src : Src) : Prop where
  go : ∀ i S' H' x, RelS K S' H' → Ext H1 H' → src.live S' → src.items[i]? = some x → J.go i H' ∧ ∀ v H'', J.yld i H' v H'' → Ext H' H'' ∧ RelS K S' H'' ∧ RT K H'' x v
  stop : ∀ i S' H', RelS K S' H' → Ext H1 H' → src.live S' → src.items[i]? = none → J.stop i H'
def LI (w : TTI) : TI := fun σ H R => ∃ ρ S Q', RelS K S H ∧ RelE K H σ ρ ∧ w ρ S Q' ∧ ∀ src S1 J H1, Ext H H1 → RelS K S1 H1 → Fits K H1 J src → Q' src S1 → R J H1
end
abbrev QE (X : Cx) (e : Expr) (t : TTE) : Prop := PE X e (LE (zx X) t)
abbrev QT (X : Cx) (e : Expr) (t : TTT) : Prop := PT X e (LT (zx X) t)
abbrev QW (X : Cx) (e : Expr) (t : TTT) : Prop := PW X e (LT (zx X) t)
abbrev QA (X : Cx) (es : List Expr) (t : TTA) : Prop := PA X es (LA (zx X) t)
abbrev QS (X : Cx) (s : Stmt) (t : TTS) : Prop := PS X s (LS (zx X) t)
abbrev QSs (X : Cx) (s : List Stmt) (t : TTS) : Prop := PSs X s (LS (zx X) t)
abbrev QG (X : Cx) (e : Expr) (t : TTG) : Prop := PG X e (LG (zx X) t)
abbrev QGs (X : Cx) (es : List Expr) (t : TTGs) : Prop := PGs X es (LGs (zx X) t)
abbrev QI (X : Cx) (tg it : Expr) (w : TTI) : Prop := PI X tg it (LI (zx X) w)

section
variable {K : Zk} {H H0 H1 : Hp}
theorem WE.ext (x : Ext H0 H) {Q : T → Sto → Prop} {v : V} {H' : Hp} (h : WE K H Q v H') : WE K H0 Q v H' := by
  obtain ⟨r, S', e, a, b, c⟩ := h; exact ⟨r, S', x.trans e, a, b, c⟩
theorem WT.ext (x : Ext H0 H) {Q : Bool → Sto → Prop} {v : Bool} {H' : Hp} (h : WT K H Q v H') : WT K H0 Q v H' := by
  obtain ⟨S', e, a, c⟩ := h; exact ⟨S', x.trans e, a, c⟩
theorem WA.ext (x : Ext H0 H) {Q : List T → Sto → Prop} {v : List V} {H' : Hp} (h : WA K H Q v H') : WA K H0 Q v H' := by
  obtain ⟨r, S', e, a, b, c⟩ := h; exact ⟨r, S', x.trans e, a, b, c⟩
theorem WR.ext (x : Ext H0 H) {Q : Rho → Sto → Prop} {v : L2.St} {H' : Hp} (h : WR K H Q v H') : WR K H0 Q v H' := by
  obtain ⟨r, S', e, a, b, c⟩ := h; exact ⟨r, S', x.trans e, a, b, c⟩
/-- nothing has changed -/
theorem WE.here {Q : T → Sto → Prop} {v : V} {r : T} {S : Sto} (x : Ext H0 H) (rs : RelS K S H) (h : RT K H r v) (q : Q r S) : WE K H0 Q v H := ⟨r, S, x, rs, h, q⟩
/-- a new object -/
theorem WE.laid {Q : T → Sto → Prop} {p : Addr} {o : HO} {m : MO} {S : Sto} (x : Ext H0 H) (rs : RelS K S H) (hp : H p = none) (ho : RO K (upd H p o) p m) (q : Q (.adr p) (S.set p m)) : WE K H0 Q (.ref p) (upd H p o) :=
  ⟨.adr p, _, x.trans (.new hp), rs.put (.new hp) ho, by rw [rt_adr], q⟩
/-- a new list -/
theorem WE.lst {Q : T → Sto → Prop} {p : Addr} {vs : List V} {ts : List T} {S : Sto} (x : Ext H0 H) (rs : RelS K S H) (hp : H p = none) (ht : RTs K H ts vs) (q : Q (.adr p) (S.set p (.lst ts))) : WE K H0 Q (.ref p) (upd H p (.lst vs)) :=
  WE.laid (m := .lst ts) x rs hp ⟨vs, upd_same, RTs.ext (.new hp) _ ht⟩ q
/-- a new tuple -/
theorem WE.tup {Q : T → Sto → Prop} {p : Addr} {ob : Obj} {vs : List V} {ts : List T} {S : Sto} (x : Ext H0 H) (rs : RelS K S H) (hp : H p = none) (hd : ob.dict = none) (ht : RTs K H ts vs) (q : Q (.tup ts) S) : WE K H0 Q (.ref p) (upd H p (.frz ob (.tup vs))) :=
  ⟨.tup ts, S, x.trans (.new hp), rs.new hp, by rw [rt_tup]; exact ⟨p, vs, rfl, .inl ⟨ob, upd_same, hd⟩, RTs.ext (.new hp) _ ht⟩, q⟩
end
section
variable {X : Cx} {e : Expr} {es : List Expr} {st : Stmt} {sts : List Stmt}
/-- from a rule of the hand layer -/
theorem qe_of {tt : TE} {t : TTE} (h : PE X e tt) (hi : ∀ σ H ρ S Q, RelS (zx X) S H → RelE (zx X) H σ ρ → t ρ S Q → tt σ H (WE (zx X) H Q)) : QE X e t := by
  refine ⟨fun pins s σ H Q I h1 => ?_⟩
  obtain ⟨ρ, S, Q', rs, re, q, m⟩ := h1
  exact thn (h.run pins s σ H _ I (hi σ H ρ S Q' rs re q)) fun u s' ⟨v, H', I', r, w⟩ => ⟨v, H', I', r, m v H' w⟩
theorem qt_of {tt : TT} {t : TTT} (h : PT X e tt) (hi : ∀ σ H ρ S Q, RelS (zx X) S H → RelE (zx X) H σ ρ → t ρ S Q → tt σ H (WT (zx X) H Q)) : QT X e t := by
  refine ⟨fun pins s σ H Q I h1 => ?_⟩
  obtain ⟨ρ, S, Q', rs, re, q, m⟩ := h1
  exact thn (h.run pins s σ H _ I (hi σ H ρ S Q' rs re q)) fun u s' ⟨H', I', w⟩ => ⟨H', I', m u H' w⟩
theorem qw_of {tt : TT} {t : TTT} (h : PW X e tt) (hi : ∀ σ H ρ S Q, RelS (zx X) S H → RelE (zx X) H σ ρ → t ρ S Q → tt σ H (WT (zx X) H Q)) : QW X e t := by
  refine ⟨fun wh pins s σ H Q I h1 => ?_⟩
  obtain ⟨ρ, S, Q', rs, re, q, m⟩ := h1
  exact thn (h.run wh pins s σ H _ I (hi σ H ρ S Q' rs re q)) fun u s' ⟨H', I', w⟩ => ⟨H', I', m u H' w⟩
theorem qa_of {tt : TA} {t : TTA} (h : PA X es tt) (hi : ∀ σ H ρ S Q, RelS (zx X) S H → RelE (zx X) H σ ρ → t ρ S Q → tt σ H (WA (zx X) H Q)) : QA X es t := by
  refine ⟨fun pos pins s σ H Q I h1 => ?_⟩
  obtain ⟨ρ, S, Q', rs, re, q, m⟩ := h1
  exact thn (h.run pos pins s σ H _ I (hi σ H ρ S Q' rs re q)) fun u s' ⟨v, H', I', r, w⟩ => ⟨v, H', I', r, m v H' w⟩
theorem sp_mono {pins : List (Addr × Obj)} {D D' : Ends} {f : PySem.Flow} {s' : Shared} (h : SP X pins D f s') (h1 : ∀ σ H, D.nx σ H → D'.nx σ H) (h2 : ∀ v H, D.rt v H → D'.rt v H) (h3 : ∀ σ H, D.bk σ H → D'.bk σ H) (h4 : ∀ σ H, D.ct σ H → D'.ct σ H) : SP X pins D' f s' := by
  cases f with
  | next => obtain ⟨σ', H', I, q⟩ := h; exact ⟨σ', H', I, h1 _ _ q⟩
  | brk => obtain ⟨σ', H', I, q⟩ := h; exact ⟨σ', H', I, h3 _ _ q⟩
  | cont => obtain ⟨σ', H', I, q⟩ := h; exact ⟨σ', H', I, h4 _ _ q⟩
  | ret u => obtain ⟨v, σ', H', I, r, q⟩ := h; exact ⟨v, σ', H', I, r, h2 _ _ q⟩
theorem qs_of {tt : TS} {t : TTS} (h : PS X st tt) (hi : ∀ σ H ρ S D, RelS (zx X) S H → RelE (zx X) H σ ρ → t D ρ S → tt (WD (zx X) H D) σ H) : QS X st t := by
  refine ⟨fun pins s σ H D I h1 => ?_⟩
  obtain ⟨ρ, S, D', rs, re, q, m1, m2, m3, m4⟩ := h1
  exact thn (h.run pins s σ H _ I (hi σ H ρ S D' rs re q)) fun f s' w => sp_mono w m1 m2 m3 m4
theorem qss_of {tt : TS} {t : TTS} (h : PSs X sts tt) (hi : ∀ σ H ρ S D, RelS (zx X) S H → RelE (zx X) H σ ρ → t D ρ S → tt (WD (zx X) H D) σ H) : QSs X sts t := by
  refine ⟨fun pins s σ H D I h1 => ?_⟩
  obtain ⟨ρ, S, D', rs, re, q, m1, m2, m3, m4⟩ := h1
  exact thn (h.run pins s σ H _ I (hi σ H ρ S D' rs re q)) fun f s' w => sp_mono w m1 m2 m3 m4
theorem qg_of {tt : TG} {t : TTG} (h : PG X e tt) (hi : ∀ v σ H r ρ S Q, RelS (zx X) S H → RelE (zx X) H σ ρ → RT (zx X) H r v → t r ρ S Q → tt v σ H (WR (zx X) H Q)) : QG X e t := by
  refine ⟨fun pins s σ H v u Q I rv h1 => ?_⟩
  obtain ⟨r, ρ, S, Q', rs, re, rr, q, m⟩ := h1
  exact thn (h.run pins s σ H v u _ I rv (hi v σ H r ρ S Q' rs re rr q)) fun _ s' ⟨σ', H', I', w⟩ => ⟨σ', H', I', m _ _ w⟩
theorem qgs_of {tt : TGs} {t : TTGs} (h : PGs X es tt) (hi : ∀ v σ H r ρ S Q, RelS (zx X) S H → RelE (zx X) H σ ρ → RTs (zx X) H r v → t r ρ S Q → tt v σ H (WR (zx X) H Q)) : QGs X es t := by
  refine ⟨fun pins s σ H v u Q I rv h1 => ?_⟩
  obtain ⟨r, ρ, S, Q', rs, re, rr, q, m⟩ := h1
  exact thn (h.run pins s σ H v u _ I rv (hi v σ H r ρ S Q' rs re rr q)) fun _ s' ⟨σ', H', I', w⟩ => ⟨σ', H', I', m _ _ w⟩
theorem qi_of {tg it : Expr} {tt : TI} {w : TTI} (h : PI X tg it tt) (hi : ∀ σ H ρ S Q, RelS (zx X) S H → RelE (zx X) H σ ρ → w ρ S Q → tt σ H (fun J H1 => ∃ src S1, Ext H H1 ∧ RelS (zx X) S1 H1 ∧ Fits (zx X) H1 J src ∧ Q src S1)) : QI X tg it w := by
  refine ⟨fun pins s σ H R I h1 => ?_⟩
  obtain ⟨ρ, S, Q', rs, re, q, m⟩ := h1
  refine thn (h.run pins s σ H _ I (hi σ H ρ S Q' rs re q)) fun u s' w => thn w fun u' s'' ⟨i, fp, tn, J, H', a1, a2, a3, a4, a5, src, S1, b1, b2, b3, b4⟩ => ?_
  exact ⟨i, fp, tn, J, H', a1, a2, a3, a4, a5, m src S1 J H' b1 b2 b3 b4⟩
/-- to use a part: LE of what the reader says -/
theorem LE.mk {K : Zk} {t : TTE} {σ : L2.St} {H : Hp} {ρ : Rho} {S : Sto} {Q : T → Sto → Prop} {R : VK} (rs : RelS K S H) (re : RelE K H σ ρ) (h : t ρ S Q)
    (k : ∀ r S' v H', Ext H H' → RelS K S' H' → RT K H' r v → Q r S' → R v H') : LE K t σ H R := ⟨ρ, S, Q, rs, re, h, fun v H' ⟨r, S', a, b, c, d⟩ => k r S' v H' a b c d⟩
theorem LT.mk {K : Zk} {t : TTT} {σ : L2.St} {H : Hp} {ρ : Rho} {S : Sto} {Q : Bool → Sto → Prop} {R : Bool → Hp → Prop} (rs : RelS K S H) (re : RelE K H σ ρ) (h : t ρ S Q)
    (k : ∀ b S' H', Ext H H' → RelS K S' H' → Q b S' → R b H') : LT K t σ H R := ⟨ρ, S, Q, rs, re, h, fun v H' ⟨S', a, b, d⟩ => k v S' H' a b d⟩
theorem LA.mk {K : Zk} {t : TTA} {σ : L2.St} {H : Hp} {ρ : Rho} {S : Sto} {Q : List T → Sto → Prop} {R : List V → Hp → Prop} (rs : RelS K S H) (re : RelE K H σ ρ) (h : t ρ S Q)
    (k : ∀ r S' v H', Ext H H' → RelS K S' H' → RTs K H' r v → Q r S' → R v H') : LA K t σ H R := ⟨ρ, S, Q, rs, re, h, fun v H' ⟨r, S', a, b, c, d⟩ => k r S' v H' a b c d⟩
theorem LS.mk {K : Zk} {t : TTS} {σ : L2.St} {H H0 : Hp} {ρ : Rho} {S : Sto} {D : EndsT} (x : Ext H0 H) (rs : RelS K S H) (re : RelE K H σ ρ) (h : t D ρ S) : LS K t (WD K H0 D) σ H :=
  ⟨ρ, S, D, rs, re, h, fun _ _ w => w.ext x, fun _ _ w => w.ext x, fun _ _ w => w.ext x, fun _ _ w => w.ext x⟩
theorem LG.mk {K : Zk} {t : TTG} {v : V} {r : T} {σ : L2.St} {H H0 : Hp} {ρ : Rho} {S : Sto} {Q : Rho → Sto → Prop} (x : Ext H0 H) (rs : RelS K S H) (re : RelE K H σ ρ) (rr : RT K H r v) (h : t r ρ S Q) : LG K t v σ H (WR K H0 Q) :=
  ⟨r, ρ, S, Q, rs, re, rr, h, fun _ _ w => w.ext x⟩
end

/-! ### names, constants -/
def tv (i : Nat) : TTE := fun ρ S Q => match ρ[i]? with | some (some v) => Q v S | _ => False
def tc (c : T) : TTE := fun _ S Q => Q c S
section
variable {X : Cx} {pos : Pos}
theorem qv (i : Nat) {x : Str} (hN : X.N[i]? = some x := by rfl) (hv : Vis X.env.scope x := by first | exact Or.inl rfl | exact Or.inr (Or.inl rfl) | exact Or.inr (Or.inr rfl)) (hd : (x == ("__debug__" : Str)) = false := by decide)
    (hcd : (x == ("__classdict__" : Str)) = false := by decide) : QE X (.Name x pos) (tv i) := by
  refine qe_of (pe_var hN hv hd hcd) fun σ H ρ S Q rs re h => ?_
  unfold tv at h
  split at h
  · rename_i v e
    obtain ⟨w, h1, h2⟩ := re.2 i v e
    exact ⟨w, h1, .here (.refl _) rs h2 h⟩
  · exact h.elim
theorem qc_int {i : Int} {j} : QE X (.Constant (.int i) j pos) (tc (.int i)) := qe_of pe_int fun σ H ρ S Q rs re h => .here (.refl _) rs (by rw [rt_int]) h
theorem qc_bl {b : Bool} {j} : QE X (.Constant (.bool b) j pos) (tc (.bl b)) := qe_of pe_bl fun σ H ρ S Q rs re h => .here (.refl _) rs (by rw [rt_bl]) h
theorem qc_non {j} : QE X (.Constant .none j pos) (tc .non) := qe_of pe_non fun σ H ρ S Q rs re h => .here (.refl _) rs (by rw [rt_non]) h
theorem qc_str {x : Str} {j} : QE X (.Constant (.str x) j pos) (tc (.str x)) := qe_of pe_str fun σ H ρ S Q rs re h => .here (.refl _) rs (by rw [rt_str]) h
/-- a constant of the module: a tree of tuples, texts, numbers, or an object -/
structure Glo (K : Zk) (u : Value) (c : T) : Prop where
  ex : ∃ v, RelV v u ∧ ∀ H, RT K H c v
theorem qc_glo {x : Str} {u : Value} {c : T} (hg : Gl X x) (hm : X.mg x = some u) (G : Glo (zx X) u c) (hd : (x == ("__debug__" : Str)) = false := by decide) : QE X (.Name x pos) (tc c) := by
  obtain ⟨v, r, hv⟩ := G.ex
  exact qe_of (pe_glob hg hm r hd) fun σ H ρ S Q rs re h => .here (.refl _) rs (hv H) h

/-! ### two parts by an operator -/
abbrev O2 := T → T → Sto → (T → Sto → Prop) → Prop
def tb (o : O2) (ta tb : TTE) : TTE := fun ρ S Q => ta ρ S fun x S1 => tb ρ S1 fun y S2 => o x y S2 Q
/-- an operator by values -/
def Op2 (K : Zk) (r : V → V → Hp → VK → Prop) (o : O2) : Prop :=
  ∀ x y v u S H H0 Q R, Ext H0 H → RelS K S H → RT K H x v → RT K H y u → o x y S Q → (∀ v H', WE K H0 Q v H' → R v H') → r v u H R
variable {a b c : Expr} {ta tb' tc' : TTE}
theorem q_op {op : Operator} {r : V → V → Hp → VK → Prop} {o : O2} (ho : OpR X (binaryOp op) r) (h : Op2 (zx X) r o) (ha : QE X a ta) (hb : QE X b tb') : QE X (.BinOp a op b pos) (tb o ta tb') :=
  qe_of (pe_op ho ha hb) fun σ H ρ S Q rs re q => LE.mk rs re q fun x S1 v H1 e1 rs1 rx q1 => LE.mk rs1 (re.ext e1) q1 fun y S2 u H2 e2 rs2 ry q2 => h x y v u S2 H2 H Q _ (e1.trans e2) rs2 (RT.ext e2 _ rx) ry q2 fun _ _ w => w
theorem q_cmp {op : CmpOp} {r : V → V → Hp → VK → Prop} {o : O2} (ho : OpR X (compareOp op) r) (h : Op2 (zx X) r o) (ha : QE X a ta) (hb : QE X b tb') (hm : behindInMarks op b = false := by rfl) : QE X (.Compare a [op] [b] pos) (tb o ta tb') :=
  qe_of (pe_cmpR ho ha hb hm) fun σ H ρ S Q rs re q => LE.mk rs re q fun x S1 v H1 e1 rs1 rx q1 => LE.mk rs1 (re.ext e1) q1 fun y S2 u H2 e2 rs2 ry q2 => h x y v u S2 H2 H Q _ (e1.trans e2) rs2 (RT.ext e2 _ rx) ry q2 fun _ _ w => w
/-- .. as a test -/
def tq (t : TTE) : TTT := fun ρ S Q => t ρ S fun x S1 => match x with | .bl k => Q k S1 | _ => False
def kq (Q : Bool → Sto → Prop) : T → Sto → Prop := fun x S1 => match x with | .bl k => Q k S1 | _ => False
theorem kq_of {K : Zk} {H H' : Hp} {Q : Bool → Sto → Prop} {v : V} (w : WE K H (kq Q) v H') : ∃ k, v = .bl k ∧ WT K H Q k H' := by
  obtain ⟨r, S', e, rs, rr, q⟩ := w
  cases r with
  | bl k => rw [rt_bl] at rr; exact ⟨k, rr, S', e, rs, q⟩
  | _ => exact q.elim
theorem t_cmp {op : CmpOp} {r : V → V → Hp → VK → Prop} {o : O2} (ho : OpR X (compareOp op) r) (h : Op2 (zx X) r o) (ha : QE X a ta) (hb : QE X b tb') (hm : behindInMarks op b = false := by rfl) : QT X (.Compare a [op] [b] pos) (tq (tb o ta tb')) := by
  refine qt_of (pt_cmpR ho ha hb hm) fun σ H ρ S Q rs re q => LE.mk rs re q fun x S1 v H1 e1 rs1 rx q1 => LE.mk rs1 (re.ext e1) q1 fun y S2 u H2 e2 rs2 ry q2 => ?_
  exact h x y v u S2 H2 H (kq Q) _ (e1.trans e2) rs2 (RT.ext e2 _ rx) ry q2 fun _ _ w => kq_of w
theorem Op2.or {K : Zk} {r r' : V → V → Hp → VK → Prop} {o o' p : O2} (h : Op2 K r o) (h' : Op2 K r' o') (z : ∀ x y S Q, p x y S Q → o x y S Q ∨ o' x y S Q) : Op2 K (fun x y H Q => r x y H Q ∨ r' x y H Q) p :=
  fun x y v u S H H0 Q R e rs rx ry q k => (z x y S Q q).imp (fun q => h x y v u S H H0 Q R e rs rx ry q k) fun q => h' x y v u S H H0 Q R e rs rx ry q k
end
end TL
set_option Elab.async false
set_option linter.all false
set_option maxRecDepth 100000
/-! TL2: operators, comparisons, subscripts, slices over T. -/
namespace TL
open PySem PySem.Spec PyProof.Rows L2

/-! ### data -/
mutual
def T.pur : T → Bool
  | .adr _ => false
  | .fl _ => false
  | .tup xs => T.purs xs
  | .non => true
  | .bl _ => true
  | .int _ => true
  | .str _ => true
def T.purs : List T → Bool
  | [] => true
  | x :: xs => T.pur x && T.purs xs
end
mutual
def T.depth : T → Nat
  | .tup xs => T.depths xs + 1
  | .non => 0
  | .bl _ => 0
  | .int _ => 0
  | .str _ => 0
  | .adr _ => 0
  | .fl _ => 0
def T.depths : List T → Nat
  | [] => 0
  | x :: xs => max (T.depth x) (T.depths xs)
end
mutual
/-- == as Python has it (True == 1) -/
def eqT : T → T → Bool
  | .non, y => match y with | .non => true | _ => false
  | .bl a, y => match y with | .bl b => a == b | .int j => (if a then 1 else 0) == j | _ => false
  | .int i, y => match y with | .bl b => i == (if b then 1 else 0) | .int j => i == j | _ => false
  | .str x, y => match y with | .str z => x == z | _ => false
  | .tup xs, y => match y with | .tup ys => eqTs xs ys | _ => false
  | .adr _, _ => false
  | .fl _, _ => false
def eqTs : List T → List T → Bool
  | [], ys => match ys with | [] => true | _ => false
  | x :: xs, ys => match ys with | y :: ys => eqT x y && eqTs xs ys | [] => false
end
theorem pur_tup {xs : List T} : T.pur (.tup xs) = T.purs xs := by conv => lhs; unfold T.pur
theorem pur_non : T.pur .non = true := by unfold T.pur; rfl
theorem pur_bl {b : Bool} : T.pur (.bl b) = true := by unfold T.pur; rfl
theorem pur_int {i : Int} : T.pur (.int i) = true := by unfold T.pur; rfl
theorem pur_str {x : Str} : T.pur (.str x) = true := by unfold T.pur; rfl
theorem pur_adr {a : Addr} : T.pur (.adr a) = false := by unfold T.pur; rfl
theorem pur_fl {a : List T} : T.pur (.fl a) = false := by unfold T.pur; rfl
theorem purs_nil : T.purs [] = true := by unfold T.purs; rfl
theorem purs_cons {x : T} {xs : List T} : T.purs (x :: xs) = (T.pur x && T.purs xs) := by conv => lhs; unfold T.purs
theorem purs_all : ∀ xs : List T, T.purs xs = xs.all T.pur
  | [] => by rw [purs_nil]; rfl
  | x :: xs => by rw [purs_cons, purs_all xs]; rfl
theorem depth_tup {xs : List T} : T.depth (.tup xs) = T.depths xs + 1 := by conv => lhs; unfold T.depth
theorem depth_non : T.depth .non = 0 := by unfold T.depth; rfl
theorem depth_bl {b : Bool} : T.depth (.bl b) = 0 := by unfold T.depth; rfl
theorem depth_int {i : Int} : T.depth (.int i) = 0 := by unfold T.depth; rfl
theorem depth_str {x : Str} : T.depth (.str x) = 0 := by unfold T.depth; rfl
theorem depths_nil : T.depths [] = 0 := by unfold T.depths; rfl
theorem depths_cons {x : T} {xs : List T} : T.depths (x :: xs) = max (T.depth x) (T.depths xs) := by conv => lhs; unfold T.depths
theorem eqT_tup {xs ys : List T} : eqT (.tup xs) (.tup ys) = eqTs xs ys := by conv => lhs; unfold eqT
theorem eqT_str {x y : Str} : eqT (.str x) (.str y) = (x == y) := by unfold eqT; rfl
theorem eqT_int {x y : Int} : eqT (.int x) (.int y) = (x == y) := by unfold eqT; rfl
theorem eqT_bl {x y : Bool} : eqT (.bl x) (.bl y) = (x == y) := by unfold eqT; rfl
theorem eqT_bi {x : Bool} {y : Int} : eqT (.bl x) (.int y) = ((if x then 1 else 0) == y) := by unfold eqT; rfl
theorem eqT_ib {x : Int} {y : Bool} : eqT (.int x) (.bl y) = (x == (if y then 1 else 0)) := by unfold eqT; rfl
theorem eqT_nn : eqT .non .non = true := by unfold eqT; rfl
theorem eqTs_nil : eqTs [] [] = true := by unfold eqTs; rfl
theorem eqTs_nc {y : T} {ys : List T} : eqTs [] (y :: ys) = false := by unfold eqTs; rfl
theorem eqTs_cn {y : T} {ys : List T} : eqTs (y :: ys) [] = false := by unfold eqTs; rfl
theorem eqTs_cons {x y : T} {xs ys : List T} : eqTs (x :: xs) (y :: ys) = (eqT x y && eqTs xs ys) := by conv => lhs; unfold eqTs
mutual
theorem eqT_refl : ∀ x : T, x.pur = true → eqT x x = true
  | .non, _ => eqT_nn
  | .bl b, _ => by rw [eqT_bl]; simp
  | .int b, _ => by rw [eqT_int]; simp
  | .str b, _ => by rw [eqT_str]; simp
  | .adr _, h => by rw [pur_adr] at h; cases h
  | .fl _, h => by rw [pur_fl] at h; cases h
  | .tup xs, h => by rw [eqT_tup]; exact eqTs_refl xs (by rw [← pur_tup]; exact h)
theorem eqTs_refl : ∀ xs : List T, T.purs xs = true → eqTs xs xs = true
  | [], _ => eqTs_nil
  | x :: xs, h => by
    rw [purs_cons, Bool.and_eq_true] at h
    rw [eqTs_cons, eqT_refl x h.1, eqTs_refl xs h.2]; rfl
end
abbrev pairT (xs ys : List T) (j : Nat) : Bool := eqT (xs.getD j .non) (ys.getD j .non)
theorem eqTs_range : ∀ xs ys : List T, ((List.range (min xs.length ys.length)).all (pairT xs ys) && xs.length == ys.length) = eqTs xs ys
  | [], [] => by rw [eqTs_nil]; rfl
  | [], _ :: _ => by rw [eqTs_nc]; simp
  | _ :: _, [] => by rw [eqTs_cn]; simp
  | x :: xs, y :: ys => by
    have ih := eqTs_range xs ys
    have e1 : min (x :: xs).length (y :: ys).length = min xs.length ys.length + 1 := by simp only [List.length_cons]; omega
    have e2 : ((x :: xs).length == (y :: ys).length) = (xs.length == ys.length) := by simp
    have e3 : (List.range (min xs.length ys.length + 1)).all (pairT (x :: xs) (y :: ys)) = (eqT x y && (List.range (min xs.length ys.length)).all (pairT xs ys)) := by
      rw [List.range_succ_eq_map, List.all_cons, List.all_map]
      first | rfl | simp [pairT, Function.comp_def]
    rw [e1, e2, e3, eqTs_cons, ← ih, Bool.and_assoc]
theorem eqTs_len {xs ys : List T} (h : xs.length = ys.length) : (List.range xs.length).all (pairT xs ys) = eqTs xs ys := by
  have := eqTs_range xs ys
  rw [← h, Nat.min_self] at this
  simpa using this
theorem eqTs_other {xs ys : List T} (h : xs.length ≠ ys.length) : eqTs xs ys = false := by
  rw [← eqTs_range xs ys]
  simp [h]
theorem depth_get : ∀ {xs : List T} {i : Nat} {x : T}, xs[i]? = some x → x.depth ≤ T.depths xs
  | [], _, _, h => by simp at h
  | y :: ys, 0, x, h => by simp at h; subst h; rw [depths_cons]; omega
  | y :: ys, i + 1, x, h => by
    have := depth_get (xs := ys) (i := i) (x := x) (by simpa using h)
    rw [depths_cons]; omega
section
variable {X : Cx} {pins : List (Addr × Obj)} {σ : L2.St} {H : Hp} {s : Shared}
mutual
theorem RT.inj (I : Inv X pins σ H s) : ∀ (x y : T) {v : V}, RT (zx X) H x v → RT (zx X) H y v → x.pur = true → y.pur = true → x = y
  | .adr a, _, _, _, _, h, _ => by rw [pur_adr] at h; cases h
  | .fl a, _, _, _, _, h, _ => by rw [pur_fl] at h; cases h
  | _, .adr a, _, _, _, _, h => by rw [pur_adr] at h; cases h
  | _, .fl a, _, _, _, _, h => by rw [pur_fl] at h; cases h
  | .tup xs, .tup ys, v, hx, hy, p1, p2 => by
    rw [rt_tup] at hx hy
    obtain ⟨a, vs, rfl, h1, h2⟩ := hx
    obtain ⟨b, us, e, g1, g2⟩ := hy
    injection e with e
    subst e
    rw [I.tuple_inj h1.sqT g1.sqT] at h2
    rw [pur_tup] at p1 p2
    rw [RTs.inj I xs ys h2 g2 p1 p2]
  | .non, .non, v, hx, hy, _, _ => rfl
  | .non, .bl b, v, hx, hy, _, _ => by rw [rt_non] at hx; rw [rt_bl] at hy; rw [hx] at hy; cases hy
  | .non, .int b, v, hx, hy, _, _ => by rw [rt_non] at hx; rw [rt_int] at hy; rw [hx] at hy; cases hy
  | .non, .str b, v, hx, hy, _, _ => by rw [rt_non] at hx; rw [rt_str] at hy; rw [hx] at hy; cases hy
  | .non, .tup b, v, hx, hy, _, _ => by rw [rt_non] at hx; rw [rt_tup] at hy; obtain ⟨a, vs, e, _⟩ := hy; rw [hx] at e; cases e
  | .bl a, .non, v, hx, hy, _, _ => by rw [rt_bl] at hx; rw [rt_non] at hy; rw [hx] at hy; cases hy
  | .bl a, .bl b, v, hx, hy, _, _ => by rw [rt_bl] at hx hy; rw [hx] at hy; cases hy; rfl
  | .bl a, .int b, v, hx, hy, _, _ => by rw [rt_bl] at hx; rw [rt_int] at hy; rw [hx] at hy; cases hy
  | .bl a, .str b, v, hx, hy, _, _ => by rw [rt_bl] at hx; rw [rt_str] at hy; rw [hx] at hy; cases hy
  | .bl a, .tup b, v, hx, hy, _, _ => by rw [rt_bl] at hx; rw [rt_tup] at hy; obtain ⟨a, vs, e, _⟩ := hy; rw [hx] at e; cases e
  | .int a, .non, v, hx, hy, _, _ => by rw [rt_int] at hx; rw [rt_non] at hy; rw [hx] at hy; cases hy
  | .int a, .bl b, v, hx, hy, _, _ => by rw [rt_int] at hx; rw [rt_bl] at hy; rw [hx] at hy; cases hy
  | .int a, .int b, v, hx, hy, _, _ => by rw [rt_int] at hx hy; rw [hx] at hy; cases hy; rfl
  | .int a, .str b, v, hx, hy, _, _ => by rw [rt_int] at hx; rw [rt_str] at hy; rw [hx] at hy; cases hy
  | .int a, .tup b, v, hx, hy, _, _ => by rw [rt_int] at hx; rw [rt_tup] at hy; obtain ⟨a, vs, e, _⟩ := hy; rw [hx] at e; cases e
  | .str a, .non, v, hx, hy, _, _ => by rw [rt_str] at hx; rw [rt_non] at hy; rw [hx] at hy; cases hy
  | .str a, .bl b, v, hx, hy, _, _ => by rw [rt_str] at hx; rw [rt_bl] at hy; rw [hx] at hy; cases hy
  | .str a, .int b, v, hx, hy, _, _ => by rw [rt_str] at hx; rw [rt_int] at hy; rw [hx] at hy; cases hy
  | .str a, .str b, v, hx, hy, _, _ => by rw [rt_str] at hx hy; rw [hx] at hy; cases hy; rfl
  | .str a, .tup b, v, hx, hy, _, _ => by rw [rt_str] at hx; rw [rt_tup] at hy; obtain ⟨a, vs, e, _⟩ := hy; rw [hx] at e; cases e
  | .tup a, .non, v, hx, hy, _, _ => by rw [rt_tup] at hx; rw [rt_non] at hy; obtain ⟨a, vs, e, _⟩ := hx; rw [hy] at e; cases e
  | .tup a, .bl b, v, hx, hy, _, _ => by rw [rt_tup] at hx; rw [rt_bl] at hy; obtain ⟨a, vs, e, _⟩ := hx; rw [hy] at e; cases e
  | .tup a, .int b, v, hx, hy, _, _ => by rw [rt_tup] at hx; rw [rt_int] at hy; obtain ⟨a, vs, e, _⟩ := hx; rw [hy] at e; cases e
  | .tup a, .str b, v, hx, hy, _, _ => by rw [rt_tup] at hx; rw [rt_str] at hy; obtain ⟨a, vs, e, _⟩ := hx; rw [hy] at e; cases e
theorem RTs.inj (I : Inv X pins σ H s) : ∀ (xs ys : List T) {vs : List V}, RTs (zx X) H xs vs → RTs (zx X) H ys vs → T.purs xs = true → T.purs ys = true → xs = ys
  | [], [], _, _, _, _, _ => rfl
  | [], y :: ys, vs, hx, hy, _, _ => by rw [rts_nil] at hx; rw [rts_cons] at hy; obtain ⟨v, r, e, _⟩ := hy; rw [hx] at e; cases e
  | x :: xs, [], vs, hx, hy, _, _ => by rw [rts_nil] at hy; rw [rts_cons] at hx; obtain ⟨v, r, e, _⟩ := hx; rw [hy] at e; cases e
  | x :: xs, y :: ys, vs, hx, hy, p1, p2 => by
    rw [rts_cons] at hx hy
    obtain ⟨v, r, rfl, h1, h2⟩ := hx
    obtain ⟨v', r', e, g1, g2⟩ := hy
    injection e with e1 e2
    subst e1; subst e2
    rw [purs_cons, Bool.and_eq_true] at p1 p2
    rw [RT.inj I x y h1 g1 p1.1 p2.1, RTs.inj I xs ys h2 g2 p1.2 p2.2]
end
mutual
theorem eqAt_T (I : Inv X pins σ H s) : ∀ (x y : T) (A : Around) (vx vy : V) (u1 u2 : Value), RT (zx X) H x vx → RT (zx X) H y vy → RelV vx u1 → RelV vy u2 → x.pur = true → y.pur = true → A.units + min x.depth y.depth < cLine →
    SeqAt.EqAt A s u1 u2 (eqT x y)
  | .adr a, _, _, _, _, _, _, _, _, _, _, h, _, _ => by rw [pur_adr] at h; cases h
  | .fl a, _, _, _, _, _, _, _, _, _, _, h, _, _ => by rw [pur_fl] at h; cases h
  | _, .adr a, _, _, _, _, _, _, _, _, _, _, h, _ => by rw [pur_adr] at h; cases h
  | _, .fl a, _, _, _, _, _, _, _, _, _, _, h, _ => by rw [pur_fl] at h; cases h
  | .non, .non, A, vx, vy, u1, u2, hx, hy, r1, r2, p1, p2, hu => by
    rw [rt_non] at hx; subst hx; cases r1
    rw [rt_non] at hy; subst hy; cases r2
    have hu : A.units < cLine := by omega
    exact SeqAt.EqAt.same _
  | .non, .bl q, A, vx, vy, u1, u2, hx, hy, r1, r2, p1, p2, hu => by
    rw [rt_non] at hx; subst hx; cases r1
    rw [rt_bl] at hy; subst hy; cases r2
    have hu : A.units < cLine := by omega
    exact SeqAt.EqAt.none_bool q
  | .non, .int q, A, vx, vy, u1, u2, hx, hy, r1, r2, p1, p2, hu => by
    rw [rt_non] at hx; subst hx; cases r1
    rw [rt_int] at hy; subst hy; obtain ⟨u, rfl⟩ := r2
    have hu : A.units < cLine := by omega
    exact SeqAt.EqAt.none_int q u
  | .non, .str q, A, vx, vy, u1, u2, hx, hy, r1, r2, p1, p2, hu => by
    rw [rt_non] at hx; subst hx; cases r1
    rw [rt_str] at hy; subst hy; obtain ⟨u, rfl⟩ := r2
    have hu : A.units < cLine := by omega
    exact SeqAt.EqAt.none_str q u
  | .non, .tup ys, A, vx, vy, u1, u2, hx, hy, r1, r2, p1, p2, hu => by
    rw [rt_non] at hx; subst hx; cases r1
    rw [rt_tup] at hy; obtain ⟨ua, uv, rfl, u1, u2⟩ := hy; cases r2; obtain ⟨ui, ur, up, _⟩ := I.tuple u1.sqT
    have hu : A.units < cLine := by omega
    exact SeqAt.EqAt.none_tuple up hu
  | .bl p, .non, A, vx, vy, u1, u2, hx, hy, r1, r2, p1, p2, hu => by
    rw [rt_bl] at hx; subst hx; cases r1
    rw [rt_non] at hy; subst hy; cases r2
    have hu : A.units < cLine := by omega
    exact SeqAt.EqAt.bool_none p
  | .bl p, .bl q, A, vx, vy, u1, u2, hx, hy, r1, r2, p1, p2, hu => by
    rw [rt_bl] at hx; subst hx; cases r1
    rw [rt_bl] at hy; subst hy; cases r2
    have hu : A.units < cLine := by omega
    exact SeqAt.EqAt.bool_bool p q
  | .bl p, .int q, A, vx, vy, u1, u2, hx, hy, r1, r2, p1, p2, hu => by
    rw [rt_bl] at hx; subst hx; cases r1
    rw [rt_int] at hy; subst hy; obtain ⟨u, rfl⟩ := r2
    have hu : A.units < cLine := by omega
    exact SeqAt.EqAt.bool_int p q u
  | .bl p, .str q, A, vx, vy, u1, u2, hx, hy, r1, r2, p1, p2, hu => by
    rw [rt_bl] at hx; subst hx; cases r1
    rw [rt_str] at hy; subst hy; obtain ⟨u, rfl⟩ := r2
    have hu : A.units < cLine := by omega
    exact SeqAt.EqAt.bool_str p q u
  | .bl p, .tup ys, A, vx, vy, u1, u2, hx, hy, r1, r2, p1, p2, hu => by
    rw [rt_bl] at hx; subst hx; cases r1
    rw [rt_tup] at hy; obtain ⟨ua, uv, rfl, u1, u2⟩ := hy; cases r2; obtain ⟨ui, ur, up, _⟩ := I.tuple u1.sqT
    have hu : A.units < cLine := by omega
    exact SeqAt.EqAt.bool_tuple p up hu
  | .int p, .non, A, vx, vy, u1, u2, hx, hy, r1, r2, p1, p2, hu => by
    rw [rt_int] at hx; subst hx; obtain ⟨t, rfl⟩ := r1
    rw [rt_non] at hy; subst hy; cases r2
    have hu : A.units < cLine := by omega
    exact SeqAt.EqAt.int_none p t
  | .int p, .bl q, A, vx, vy, u1, u2, hx, hy, r1, r2, p1, p2, hu => by
    rw [rt_int] at hx; subst hx; obtain ⟨t, rfl⟩ := r1
    rw [rt_bl] at hy; subst hy; cases r2
    have hu : A.units < cLine := by omega
    exact SeqAt.EqAt.int_bool p t q
  | .int p, .int q, A, vx, vy, u1, u2, hx, hy, r1, r2, p1, p2, hu => by
    rw [rt_int] at hx; subst hx; obtain ⟨t, rfl⟩ := r1
    rw [rt_int] at hy; subst hy; obtain ⟨u, rfl⟩ := r2
    have hu : A.units < cLine := by omega
    exact SeqAt.EqAt.int_int p t q u
  | .int p, .str q, A, vx, vy, u1, u2, hx, hy, r1, r2, p1, p2, hu => by
    rw [rt_int] at hx; subst hx; obtain ⟨t, rfl⟩ := r1
    rw [rt_str] at hy; subst hy; obtain ⟨u, rfl⟩ := r2
    have hu : A.units < cLine := by omega
    exact SeqAt.EqAt.int_str p t q u
  | .int p, .tup ys, A, vx, vy, u1, u2, hx, hy, r1, r2, p1, p2, hu => by
    rw [rt_int] at hx; subst hx; obtain ⟨t, rfl⟩ := r1
    rw [rt_tup] at hy; obtain ⟨ua, uv, rfl, u1, u2⟩ := hy; cases r2; obtain ⟨ui, ur, up, _⟩ := I.tuple u1.sqT
    have hu : A.units < cLine := by omega
    exact SeqAt.EqAt.int_tuple p t up hu
  | .str p, .non, A, vx, vy, u1, u2, hx, hy, r1, r2, p1, p2, hu => by
    rw [rt_str] at hx; subst hx; obtain ⟨t, rfl⟩ := r1
    rw [rt_non] at hy; subst hy; cases r2
    have hu : A.units < cLine := by omega
    exact SeqAt.EqAt.str_none p t
  | .str p, .bl q, A, vx, vy, u1, u2, hx, hy, r1, r2, p1, p2, hu => by
    rw [rt_str] at hx; subst hx; obtain ⟨t, rfl⟩ := r1
    rw [rt_bl] at hy; subst hy; cases r2
    have hu : A.units < cLine := by omega
    exact SeqAt.EqAt.str_bool p t q
  | .str p, .int q, A, vx, vy, u1, u2, hx, hy, r1, r2, p1, p2, hu => by
    rw [rt_str] at hx; subst hx; obtain ⟨t, rfl⟩ := r1
    rw [rt_int] at hy; subst hy; obtain ⟨u, rfl⟩ := r2
    have hu : A.units < cLine := by omega
    exact SeqAt.EqAt.str_int p t q u
  | .str p, .str q, A, vx, vy, u1, u2, hx, hy, r1, r2, p1, p2, hu => by
    rw [rt_str] at hx; subst hx; obtain ⟨t, rfl⟩ := r1
    rw [rt_str] at hy; subst hy; obtain ⟨u, rfl⟩ := r2
    have hu : A.units < cLine := by omega
    exact SeqAt.EqAt.str_str p t q u
  | .str p, .tup ys, A, vx, vy, u1, u2, hx, hy, r1, r2, p1, p2, hu => by
    rw [rt_str] at hx; subst hx; obtain ⟨t, rfl⟩ := r1
    rw [rt_tup] at hy; obtain ⟨ua, uv, rfl, u1, u2⟩ := hy; cases r2; obtain ⟨ui, ur, up, _⟩ := I.tuple u1.sqT
    have hu : A.units < cLine := by omega
    exact SeqAt.EqAt.str_tuple p t up hu
  | .tup xs, .non, A, vx, vy, u1, u2, hx, hy, r1, r2, p1, p2, hu => by
    rw [rt_tup] at hx; obtain ⟨ta, tv, rfl, t1, t2⟩ := hx; cases r1; obtain ⟨ti, tr, tp, _⟩ := I.tuple t1.sqT
    rw [rt_non] at hy; subst hy; cases r2
    have hu : A.units < cLine := by omega
    exact SeqAt.EqAt.tuple_none tp hu
  | .tup xs, .bl q, A, vx, vy, u1, u2, hx, hy, r1, r2, p1, p2, hu => by
    rw [rt_tup] at hx; obtain ⟨ta, tv, rfl, t1, t2⟩ := hx; cases r1; obtain ⟨ti, tr, tp, _⟩ := I.tuple t1.sqT
    rw [rt_bl] at hy; subst hy; cases r2
    have hu : A.units < cLine := by omega
    exact SeqAt.EqAt.tuple_bool q tp hu
  | .tup xs, .int q, A, vx, vy, u1, u2, hx, hy, r1, r2, p1, p2, hu => by
    rw [rt_tup] at hx; obtain ⟨ta, tv, rfl, t1, t2⟩ := hx; cases r1; obtain ⟨ti, tr, tp, _⟩ := I.tuple t1.sqT
    rw [rt_int] at hy; subst hy; obtain ⟨u, rfl⟩ := r2
    have hu : A.units < cLine := by omega
    exact SeqAt.EqAt.tuple_int q u tp hu
  | .tup xs, .str q, A, vx, vy, u1, u2, hx, hy, r1, r2, p1, p2, hu => by
    rw [rt_tup] at hx; obtain ⟨ta, tv, rfl, t1, t2⟩ := hx; cases r1; obtain ⟨ti, tr, tp, _⟩ := I.tuple t1.sqT
    rw [rt_str] at hy; subst hy; obtain ⟨u, rfl⟩ := r2
    have hu : A.units < cLine := by omega
    exact SeqAt.EqAt.tuple_str q u tp hu
  | .tup xs, .tup ys, A, vx, vy, u1, u2, hx, hy, r1, r2, p1, p2, hu => by
    have hx0 := hx
    have hy0 := hy
    rw [rt_tup] at hx hy
    obtain ⟨a, vs, rfl, h1, h2⟩ := hx
    obtain ⟨b, us, rfl, g1, g2⟩ := hy
    cases r1; cases r2
    obtain ⟨its, ra, pa, _⟩ := I.tuple h1.sqT
    obtain ⟨its2, rb, pb, _⟩ := I.tuple g1.sqT
    have l1 := h2.length
    have l2 := g2.length
    have l3 := ra.length
    have l4 := rb.length
    rw [depth_tup, depth_tup] at hu
    by_cases hab : a = b
    · subst hab
      have e : T.tup xs = T.tup ys := RT.inj I _ _ hx0 hy0 p1 p2
      rw [e, eqT_refl _ p2]
      exact SeqAt.EqAt.same _
    · rw [eqT_tup, ← eqTs_range xs ys]
      have n1 : its.toArray.size = xs.length := by rw [List.size_toArray]; omega
      have n2 : its2.toArray.size = ys.length := by rw [List.size_toArray]; omega
      rw [← n1, ← n2]
      rw [pur_tup] at p1 p2
      refine SeqAt.EqAt.of_refs hab (SeqAt.RcAt.tuples pa pb (by omega) fun j j1 j2 => ?_)
      have := eqAt_Ts I xs ys A.in1 vs us its its2 h2 g2 ra rb p1 p2 (by show A.units + 1 + _ < _; omega) j (by simpa using j1) (by simpa using j2)
      simpa using this
theorem eqAt_Ts (I : Inv X pins σ H s) : ∀ (xs ys : List T) (A : Around) (vs us : List V) (is js : List Value), RTs (zx X) H xs vs → RTs (zx X) H ys us → Vals vs is → Vals us js → T.purs xs = true → T.purs ys = true → A.units + min (T.depths xs) (T.depths ys) < cLine →
    ∀ j (h1 : j < is.length) (h2 : j < js.length), SeqAt.EqAt A s is[j] js[j] (pairT xs ys j)
  | [], _, A, vs, us, is, js, hx, hy, r1, r2, _, _, _, j, h1, h2 => by
    rw [rts_nil] at hx; subst hx; cases r1; exact absurd h1 (Nat.not_lt_zero _)
  | x :: xs, [], A, vs, us, is, js, hx, hy, r1, r2, _, _, _, j, h1, h2 => by
    rw [rts_nil] at hy; subst hy; cases r2; exact absurd h2 (Nat.not_lt_zero _)
  | x :: xs, y :: ys, A, vs, us, is, js, hx, hy, r1, r2, p1, p2, hu, j, h1, h2 => by
    rw [rts_cons] at hx hy
    obtain ⟨v, r, rfl, a1, a2⟩ := hx
    obtain ⟨v', r', rfl, b1, b2⟩ := hy
    rw [purs_cons, Bool.and_eq_true] at p1 p2
    rw [depths_cons, depths_cons] at hu
    cases r1 with
    | cons q1 t1 =>
      cases r2 with
      | cons q2 t2 =>
        cases j with
        | zero => exact eqAt_T I x y A _ _ _ _ a1 b1 q1 q2 p1.1 p2.1 (by omega)
        | succ j => exact eqAt_Ts I xs ys A _ _ _ _ a2 b2 t1 t2 p1.2 p2.2 (by omega) j (Nat.lt_of_succ_lt_succ h1) (Nat.lt_of_succ_lt_succ h2)
end
theorem rcAt_T (I : Inv X pins σ H s) : ∀ (x y : T) (A : Around) (vx vy : V) (u1 u2 : Value), RT (zx X) H x vx → RT (zx X) H y vy → RelV vx u1 → RelV vy u2 → x.pur = true → y.pur = true → A.units + min x.depth y.depth < cLine →
    SeqAt.RcAt A s u1 u2 (eqT x y)
  | .adr a, _, _, _, _, _, _, _, _, _, _, h, _, _ => by rw [pur_adr] at h; cases h
  | .fl a, _, _, _, _, _, _, _, _, _, _, h, _, _ => by rw [pur_fl] at h; cases h
  | _, .adr a, _, _, _, _, _, _, _, _, _, _, h, _ => by rw [pur_adr] at h; cases h
  | _, .fl a, _, _, _, _, _, _, _, _, _, _, h, _ => by rw [pur_fl] at h; cases h
  | .non, .non, A, vx, vy, u1, u2, hx, hy, r1, r2, p1, p2, hu => by
    rw [rt_non] at hx; subst hx; cases r1
    rw [rt_non] at hy; subst hy; cases r2
    have hu : A.units < cLine := by omega
    exact SeqAt.RcAt.none_none
  | .non, .bl q, A, vx, vy, u1, u2, hx, hy, r1, r2, p1, p2, hu => by
    rw [rt_non] at hx; subst hx; cases r1
    rw [rt_bl] at hy; subst hy; cases r2
    have hu : A.units < cLine := by omega
    exact SeqAt.RcAt.none_bool q
  | .non, .int q, A, vx, vy, u1, u2, hx, hy, r1, r2, p1, p2, hu => by
    rw [rt_non] at hx; subst hx; cases r1
    rw [rt_int] at hy; subst hy; obtain ⟨u, rfl⟩ := r2
    have hu : A.units < cLine := by omega
    exact SeqAt.RcAt.none_int q u
  | .non, .str q, A, vx, vy, u1, u2, hx, hy, r1, r2, p1, p2, hu => by
    rw [rt_non] at hx; subst hx; cases r1
    rw [rt_str] at hy; subst hy; obtain ⟨u, rfl⟩ := r2
    have hu : A.units < cLine := by omega
    exact SeqAt.RcAt.none_str q u
  | .non, .tup ys, A, vx, vy, u1, u2, hx, hy, r1, r2, p1, p2, hu => by
    rw [rt_non] at hx; subst hx; cases r1
    rw [rt_tup] at hy; obtain ⟨ua, uv, rfl, u1, u2⟩ := hy; cases r2; obtain ⟨ui, ur, up, _⟩ := I.tuple u1.sqT
    have hu : A.units < cLine := by omega
    exact SeqAt.RcAt.none_tuple up hu
  | .bl p, .non, A, vx, vy, u1, u2, hx, hy, r1, r2, p1, p2, hu => by
    rw [rt_bl] at hx; subst hx; cases r1
    rw [rt_non] at hy; subst hy; cases r2
    have hu : A.units < cLine := by omega
    exact SeqAt.RcAt.bool_none p
  | .bl p, .bl q, A, vx, vy, u1, u2, hx, hy, r1, r2, p1, p2, hu => by
    rw [rt_bl] at hx; subst hx; cases r1
    rw [rt_bl] at hy; subst hy; cases r2
    have hu : A.units < cLine := by omega
    exact SeqAt.RcAt.bool_bool p q
  | .bl p, .int q, A, vx, vy, u1, u2, hx, hy, r1, r2, p1, p2, hu => by
    rw [rt_bl] at hx; subst hx; cases r1
    rw [rt_int] at hy; subst hy; obtain ⟨u, rfl⟩ := r2
    have hu : A.units < cLine := by omega
    exact SeqAt.RcAt.bool_int p q u
  | .bl p, .str q, A, vx, vy, u1, u2, hx, hy, r1, r2, p1, p2, hu => by
    rw [rt_bl] at hx; subst hx; cases r1
    rw [rt_str] at hy; subst hy; obtain ⟨u, rfl⟩ := r2
    have hu : A.units < cLine := by omega
    exact SeqAt.RcAt.bool_str p q u
  | .bl p, .tup ys, A, vx, vy, u1, u2, hx, hy, r1, r2, p1, p2, hu => by
    rw [rt_bl] at hx; subst hx; cases r1
    rw [rt_tup] at hy; obtain ⟨ua, uv, rfl, u1, u2⟩ := hy; cases r2; obtain ⟨ui, ur, up, _⟩ := I.tuple u1.sqT
    have hu : A.units < cLine := by omega
    exact SeqAt.RcAt.bool_tuple p up hu
  | .int p, .non, A, vx, vy, u1, u2, hx, hy, r1, r2, p1, p2, hu => by
    rw [rt_int] at hx; subst hx; obtain ⟨t, rfl⟩ := r1
    rw [rt_non] at hy; subst hy; cases r2
    have hu : A.units < cLine := by omega
    exact SeqAt.RcAt.int_none p t
  | .int p, .bl q, A, vx, vy, u1, u2, hx, hy, r1, r2, p1, p2, hu => by
    rw [rt_int] at hx; subst hx; obtain ⟨t, rfl⟩ := r1
    rw [rt_bl] at hy; subst hy; cases r2
    have hu : A.units < cLine := by omega
    exact SeqAt.RcAt.int_bool p t q
  | .int p, .int q, A, vx, vy, u1, u2, hx, hy, r1, r2, p1, p2, hu => by
    rw [rt_int] at hx; subst hx; obtain ⟨t, rfl⟩ := r1
    rw [rt_int] at hy; subst hy; obtain ⟨u, rfl⟩ := r2
    have hu : A.units < cLine := by omega
    exact SeqAt.RcAt.int_int p t q u
  | .int p, .str q, A, vx, vy, u1, u2, hx, hy, r1, r2, p1, p2, hu => by
    rw [rt_int] at hx; subst hx; obtain ⟨t, rfl⟩ := r1
    rw [rt_str] at hy; subst hy; obtain ⟨u, rfl⟩ := r2
    have hu : A.units < cLine := by omega
    exact SeqAt.RcAt.int_str p t q u
  | .int p, .tup ys, A, vx, vy, u1, u2, hx, hy, r1, r2, p1, p2, hu => by
    rw [rt_int] at hx; subst hx; obtain ⟨t, rfl⟩ := r1
    rw [rt_tup] at hy; obtain ⟨ua, uv, rfl, u1, u2⟩ := hy; cases r2; obtain ⟨ui, ur, up, _⟩ := I.tuple u1.sqT
    have hu : A.units < cLine := by omega
    exact SeqAt.RcAt.int_tuple p t up hu
  | .str p, .non, A, vx, vy, u1, u2, hx, hy, r1, r2, p1, p2, hu => by
    rw [rt_str] at hx; subst hx; obtain ⟨t, rfl⟩ := r1
    rw [rt_non] at hy; subst hy; cases r2
    have hu : A.units < cLine := by omega
    exact SeqAt.RcAt.str_none p t
  | .str p, .bl q, A, vx, vy, u1, u2, hx, hy, r1, r2, p1, p2, hu => by
    rw [rt_str] at hx; subst hx; obtain ⟨t, rfl⟩ := r1
    rw [rt_bl] at hy; subst hy; cases r2
    have hu : A.units < cLine := by omega
    exact SeqAt.RcAt.str_bool p t q
  | .str p, .int q, A, vx, vy, u1, u2, hx, hy, r1, r2, p1, p2, hu => by
    rw [rt_str] at hx; subst hx; obtain ⟨t, rfl⟩ := r1
    rw [rt_int] at hy; subst hy; obtain ⟨u, rfl⟩ := r2
    have hu : A.units < cLine := by omega
    exact SeqAt.RcAt.str_int p t q u
  | .str p, .str q, A, vx, vy, u1, u2, hx, hy, r1, r2, p1, p2, hu => by
    rw [rt_str] at hx; subst hx; obtain ⟨t, rfl⟩ := r1
    rw [rt_str] at hy; subst hy; obtain ⟨u, rfl⟩ := r2
    have hu : A.units < cLine := by omega
    exact SeqAt.RcAt.str_str p t q u
  | .str p, .tup ys, A, vx, vy, u1, u2, hx, hy, r1, r2, p1, p2, hu => by
    rw [rt_str] at hx; subst hx; obtain ⟨t, rfl⟩ := r1
    rw [rt_tup] at hy; obtain ⟨ua, uv, rfl, u1, u2⟩ := hy; cases r2; obtain ⟨ui, ur, up, _⟩ := I.tuple u1.sqT
    have hu : A.units < cLine := by omega
    exact SeqAt.RcAt.str_tuple p t up hu
  | .tup xs, .non, A, vx, vy, u1, u2, hx, hy, r1, r2, p1, p2, hu => by
    rw [rt_tup] at hx; obtain ⟨ta, tv, rfl, t1, t2⟩ := hx; cases r1; obtain ⟨ti, tr, tp, _⟩ := I.tuple t1.sqT
    rw [rt_non] at hy; subst hy; cases r2
    have hu : A.units < cLine := by omega
    exact SeqAt.RcAt.tuple_none tp hu
  | .tup xs, .bl q, A, vx, vy, u1, u2, hx, hy, r1, r2, p1, p2, hu => by
    rw [rt_tup] at hx; obtain ⟨ta, tv, rfl, t1, t2⟩ := hx; cases r1; obtain ⟨ti, tr, tp, _⟩ := I.tuple t1.sqT
    rw [rt_bl] at hy; subst hy; cases r2
    have hu : A.units < cLine := by omega
    exact SeqAt.RcAt.tuple_bool q tp hu
  | .tup xs, .int q, A, vx, vy, u1, u2, hx, hy, r1, r2, p1, p2, hu => by
    rw [rt_tup] at hx; obtain ⟨ta, tv, rfl, t1, t2⟩ := hx; cases r1; obtain ⟨ti, tr, tp, _⟩ := I.tuple t1.sqT
    rw [rt_int] at hy; subst hy; obtain ⟨u, rfl⟩ := r2
    have hu : A.units < cLine := by omega
    exact SeqAt.RcAt.tuple_int q u tp hu
  | .tup xs, .str q, A, vx, vy, u1, u2, hx, hy, r1, r2, p1, p2, hu => by
    rw [rt_tup] at hx; obtain ⟨ta, tv, rfl, t1, t2⟩ := hx; cases r1; obtain ⟨ti, tr, tp, _⟩ := I.tuple t1.sqT
    rw [rt_str] at hy; subst hy; obtain ⟨u, rfl⟩ := r2
    have hu : A.units < cLine := by omega
    exact SeqAt.RcAt.tuple_str q u tp hu
  | .tup xs, .tup ys, A, vx, vy, u1, u2, hx, hy, r1, r2, p1, p2, hu => by
    rw [rt_tup] at hx hy
    obtain ⟨a, vs, rfl, h1, h2⟩ := hx
    obtain ⟨b, us, rfl, g1, g2⟩ := hy
    cases r1; cases r2
    obtain ⟨its, ra, pa, _⟩ := I.tuple h1.sqT
    obtain ⟨its2, rb, pb, _⟩ := I.tuple g1.sqT
    have l1 := h2.length
    have l2 := g2.length
    have l3 := ra.length
    have l4 := rb.length
    rw [depth_tup, depth_tup] at hu
    rw [eqT_tup, ← eqTs_range xs ys]
    have n1 : its.toArray.size = xs.length := by rw [List.size_toArray]; omega
    have n2 : its2.toArray.size = ys.length := by rw [List.size_toArray]; omega
    rw [← n1, ← n2]
    rw [pur_tup] at p1 p2
    refine SeqAt.RcAt.tuples pa pb (by omega) fun j j1 j2 => ?_
    have := eqAt_Ts I xs ys A.in1 vs us its its2 h2 g2 ra rb p1 p2 (by show A.units + 1 + _ < _; omega) j (by simpa using j1) (by simpa using j2)
    simpa using this
theorem rcNeAt_T (I : Inv X pins σ H s) : ∀ (x y : T) (A : Around) (vx vy : V) (u1 u2 : Value), RT (zx X) H x vx → RT (zx X) H y vy → RelV vx u1 → RelV vy u2 → x.pur = true → y.pur = true → A.units + min x.depth y.depth < cLine →
    SeqAt.RcNeAt A s u1 u2 (!eqT x y)
  | .adr a, _, _, _, _, _, _, _, _, _, _, h, _, _ => by rw [pur_adr] at h; cases h
  | .fl a, _, _, _, _, _, _, _, _, _, _, h, _, _ => by rw [pur_fl] at h; cases h
  | _, .adr a, _, _, _, _, _, _, _, _, _, _, h, _ => by rw [pur_adr] at h; cases h
  | _, .fl a, _, _, _, _, _, _, _, _, _, _, h, _ => by rw [pur_fl] at h; cases h
  | .non, .non, A, vx, vy, u1, u2, hx, hy, r1, r2, p1, p2, hu => by
    rw [rt_non] at hx; subst hx; cases r1
    rw [rt_non] at hy; subst hy; cases r2
    have hu : A.units < cLine := by omega
    exact SeqAt.RcNeAt.none_none
  | .non, .bl q, A, vx, vy, u1, u2, hx, hy, r1, r2, p1, p2, hu => by
    rw [rt_non] at hx; subst hx; cases r1
    rw [rt_bl] at hy; subst hy; cases r2
    have hu : A.units < cLine := by omega
    exact SeqAt.RcNeAt.none_bool q
  | .non, .int q, A, vx, vy, u1, u2, hx, hy, r1, r2, p1, p2, hu => by
    rw [rt_non] at hx; subst hx; cases r1
    rw [rt_int] at hy; subst hy; obtain ⟨u, rfl⟩ := r2
    have hu : A.units < cLine := by omega
    exact SeqAt.RcNeAt.none_int q u
  | .non, .str q, A, vx, vy, u1, u2, hx, hy, r1, r2, p1, p2, hu => by
    rw [rt_non] at hx; subst hx; cases r1
    rw [rt_str] at hy; subst hy; obtain ⟨u, rfl⟩ := r2
    have hu : A.units < cLine := by omega
    exact SeqAt.RcNeAt.none_str q u
  | .non, .tup ys, A, vx, vy, u1, u2, hx, hy, r1, r2, p1, p2, hu => by
    rw [rt_non] at hx; subst hx; cases r1
    rw [rt_tup] at hy; obtain ⟨ua, uv, rfl, u1, u2⟩ := hy; cases r2; obtain ⟨ui, ur, up, _⟩ := I.tuple u1.sqT
    have hu : A.units < cLine := by omega
    exact SeqAt.RcNeAt.none_tuple up hu
  | .bl p, .non, A, vx, vy, u1, u2, hx, hy, r1, r2, p1, p2, hu => by
    rw [rt_bl] at hx; subst hx; cases r1
    rw [rt_non] at hy; subst hy; cases r2
    have hu : A.units < cLine := by omega
    exact SeqAt.RcNeAt.bool_none p
  | .bl p, .bl q, A, vx, vy, u1, u2, hx, hy, r1, r2, p1, p2, hu => by
    rw [rt_bl] at hx; subst hx; cases r1
    rw [rt_bl] at hy; subst hy; cases r2
    have hu : A.units < cLine := by omega
    exact SeqAt.RcNeAt.bool_bool p q
  | .bl p, .int q, A, vx, vy, u1, u2, hx, hy, r1, r2, p1, p2, hu => by
    rw [rt_bl] at hx; subst hx; cases r1
    rw [rt_int] at hy; subst hy; obtain ⟨u, rfl⟩ := r2
    have hu : A.units < cLine := by omega
    exact SeqAt.RcNeAt.bool_int p q u
  | .bl p, .str q, A, vx, vy, u1, u2, hx, hy, r1, r2, p1, p2, hu => by
    rw [rt_bl] at hx; subst hx; cases r1
    rw [rt_str] at hy; subst hy; obtain ⟨u, rfl⟩ := r2
    have hu : A.units < cLine := by omega
    exact SeqAt.RcNeAt.bool_str p q u
  | .bl p, .tup ys, A, vx, vy, u1, u2, hx, hy, r1, r2, p1, p2, hu => by
    rw [rt_bl] at hx; subst hx; cases r1
    rw [rt_tup] at hy; obtain ⟨ua, uv, rfl, u1, u2⟩ := hy; cases r2; obtain ⟨ui, ur, up, _⟩ := I.tuple u1.sqT
    have hu : A.units < cLine := by omega
    exact SeqAt.RcNeAt.bool_tuple p up hu
  | .int p, .non, A, vx, vy, u1, u2, hx, hy, r1, r2, p1, p2, hu => by
    rw [rt_int] at hx; subst hx; obtain ⟨t, rfl⟩ := r1
    rw [rt_non] at hy; subst hy; cases r2
    have hu : A.units < cLine := by omega
    exact SeqAt.RcNeAt.int_none p t
  | .int p, .bl q, A, vx, vy, u1, u2, hx, hy, r1, r2, p1, p2, hu => by
    rw [rt_int] at hx; subst hx; obtain ⟨t, rfl⟩ := r1
    rw [rt_bl] at hy; subst hy; cases r2
    have hu : A.units < cLine := by omega
    exact SeqAt.RcNeAt.int_bool p t q
  | .int p, .int q, A, vx, vy, u1, u2, hx, hy, r1, r2, p1, p2, hu => by
    rw [rt_int] at hx; subst hx; obtain ⟨t, rfl⟩ := r1
    rw [rt_int] at hy; subst hy; obtain ⟨u, rfl⟩ := r2
    have hu : A.units < cLine := by omega
    exact SeqAt.RcNeAt.int_int p t q u
  | .int p, .str q, A, vx, vy, u1, u2, hx, hy, r1, r2, p1, p2, hu => by
    rw [rt_int] at hx; subst hx; obtain ⟨t, rfl⟩ := r1
    rw [rt_str] at hy; subst hy; obtain ⟨u, rfl⟩ := r2
    have hu : A.units < cLine := by omega
    exact SeqAt.RcNeAt.int_str p t q u
  | .int p, .tup ys, A, vx, vy, u1, u2, hx, hy, r1, r2, p1, p2, hu => by
    rw [rt_int] at hx; subst hx; obtain ⟨t, rfl⟩ := r1
    rw [rt_tup] at hy; obtain ⟨ua, uv, rfl, u1, u2⟩ := hy; cases r2; obtain ⟨ui, ur, up, _⟩ := I.tuple u1.sqT
    have hu : A.units < cLine := by omega
    exact SeqAt.RcNeAt.int_tuple p t up hu
  | .str p, .non, A, vx, vy, u1, u2, hx, hy, r1, r2, p1, p2, hu => by
    rw [rt_str] at hx; subst hx; obtain ⟨t, rfl⟩ := r1
    rw [rt_non] at hy; subst hy; cases r2
    have hu : A.units < cLine := by omega
    exact SeqAt.RcNeAt.str_none p t
  | .str p, .bl q, A, vx, vy, u1, u2, hx, hy, r1, r2, p1, p2, hu => by
    rw [rt_str] at hx; subst hx; obtain ⟨t, rfl⟩ := r1
    rw [rt_bl] at hy; subst hy; cases r2
    have hu : A.units < cLine := by omega
    exact SeqAt.RcNeAt.str_bool p t q
  | .str p, .int q, A, vx, vy, u1, u2, hx, hy, r1, r2, p1, p2, hu => by
    rw [rt_str] at hx; subst hx; obtain ⟨t, rfl⟩ := r1
    rw [rt_int] at hy; subst hy; obtain ⟨u, rfl⟩ := r2
    have hu : A.units < cLine := by omega
    exact SeqAt.RcNeAt.str_int p t q u
  | .str p, .str q, A, vx, vy, u1, u2, hx, hy, r1, r2, p1, p2, hu => by
    rw [rt_str] at hx; subst hx; obtain ⟨t, rfl⟩ := r1
    rw [rt_str] at hy; subst hy; obtain ⟨u, rfl⟩ := r2
    have hu : A.units < cLine := by omega
    exact SeqAt.RcNeAt.str_str p t q u
  | .str p, .tup ys, A, vx, vy, u1, u2, hx, hy, r1, r2, p1, p2, hu => by
    rw [rt_str] at hx; subst hx; obtain ⟨t, rfl⟩ := r1
    rw [rt_tup] at hy; obtain ⟨ua, uv, rfl, u1, u2⟩ := hy; cases r2; obtain ⟨ui, ur, up, _⟩ := I.tuple u1.sqT
    have hu : A.units < cLine := by omega
    exact SeqAt.RcNeAt.str_tuple p t up hu
  | .tup xs, .non, A, vx, vy, u1, u2, hx, hy, r1, r2, p1, p2, hu => by
    rw [rt_tup] at hx; obtain ⟨ta, tv, rfl, t1, t2⟩ := hx; cases r1; obtain ⟨ti, tr, tp, _⟩ := I.tuple t1.sqT
    rw [rt_non] at hy; subst hy; cases r2
    have hu : A.units < cLine := by omega
    exact SeqAt.RcNeAt.tuple_none tp hu
  | .tup xs, .bl q, A, vx, vy, u1, u2, hx, hy, r1, r2, p1, p2, hu => by
    rw [rt_tup] at hx; obtain ⟨ta, tv, rfl, t1, t2⟩ := hx; cases r1; obtain ⟨ti, tr, tp, _⟩ := I.tuple t1.sqT
    rw [rt_bl] at hy; subst hy; cases r2
    have hu : A.units < cLine := by omega
    exact SeqAt.RcNeAt.tuple_bool q tp hu
  | .tup xs, .int q, A, vx, vy, u1, u2, hx, hy, r1, r2, p1, p2, hu => by
    rw [rt_tup] at hx; obtain ⟨ta, tv, rfl, t1, t2⟩ := hx; cases r1; obtain ⟨ti, tr, tp, _⟩ := I.tuple t1.sqT
    rw [rt_int] at hy; subst hy; obtain ⟨u, rfl⟩ := r2
    have hu : A.units < cLine := by omega
    exact SeqAt.RcNeAt.tuple_int q u tp hu
  | .tup xs, .str q, A, vx, vy, u1, u2, hx, hy, r1, r2, p1, p2, hu => by
    rw [rt_tup] at hx; obtain ⟨ta, tv, rfl, t1, t2⟩ := hx; cases r1; obtain ⟨ti, tr, tp, _⟩ := I.tuple t1.sqT
    rw [rt_str] at hy; subst hy; obtain ⟨u, rfl⟩ := r2
    have hu : A.units < cLine := by omega
    exact SeqAt.RcNeAt.tuple_str q u tp hu
  | .tup xs, .tup ys, A, vx, vy, u1, u2, hx, hy, r1, r2, p1, p2, hu => by
    rw [rt_tup] at hx hy
    obtain ⟨a, vs, rfl, h1, h2⟩ := hx
    obtain ⟨b, us, rfl, g1, g2⟩ := hy
    cases r1; cases r2
    obtain ⟨its, ra, pa, _⟩ := I.tuple h1.sqT
    obtain ⟨its2, rb, pb, _⟩ := I.tuple g1.sqT
    have l1 := h2.length
    have l2 := g2.length
    have l3 := ra.length
    have l4 := rb.length
    rw [depth_tup, depth_tup] at hu
    rw [eqT_tup, ← eqTs_range xs ys]
    have n1 : its.toArray.size = xs.length := by rw [List.size_toArray]; omega
    have n2 : its2.toArray.size = ys.length := by rw [List.size_toArray]; omega
    rw [← n1, ← n2]
    rw [pur_tup] at p1 p2
    refine SeqAt.RcNeAt.tuples pa pb (by omega) fun j j1 j2 => ?_
    have := eqAt_Ts I xs ys A.in1 vs us its its2 h2 g2 ra rb p1 p2 (by show A.units + 1 + _ < _; omega) j (by simpa using j1) (by simpa using j2)
    simpa using this
end
section
variable {X : Cx}
/-- == of trees, and of lists of trees -/
def rEqM (K : Zk) (neg : Bool) : R2 := fun x y H Q => ∃ b, Q (.bl (if neg then !b else b)) H ∧
  ((∃ d e, RT K H d x ∧ RT K H e y ∧ d.pur = true ∧ e.pur = true ∧ min d.depth e.depth ≤ 150 ∧ b = eqT d e) ∨
   (∃ a c ds es vs us, x = .ref a ∧ y = .ref c ∧ SqL K.K H a vs ∧ SqL K.K H c us ∧ RTs K H ds vs ∧ RTs K H es us ∧ T.purs ds = true ∧ T.purs es = true ∧ min (T.depths ds) (T.depths es) ≤ 149 ∧ b = eqTs ds es))
theorem op_eqM (hu : X.A.units + 200 < cLine) : OpR X (compareOp .Eq) (rEqM (zx X) false) := by
  intro pins s σ H x y v u Q I rx ry h
  obtain ⟨b, q, h⟩ := h
  rcases h with ⟨d, e, hd, he, p1, p2, hm, rfl⟩ | ⟨a, c, ds, es, vs, us, rfl, rfl, h1, g1, h2, g2, p1, p2, hm, rfl⟩
  · exact rcAt_T I d e X.A x y v u hd he rx ry p1 p2 (by omega) X.prog X.w _ _ ⟨.bl _, H, I, rfl, q⟩
  · cases rx; cases ry
    obtain ⟨its, ra, pa, _⟩ := I.list h1
    obtain ⟨its2, rb, pb, _⟩ := I.list g1
    have l1 := h2.length
    have l2 := g2.length
    have l3 := ra.length
    have l4 := rb.length
    have n1 : its.toArray.size = ds.length := by rw [List.size_toArray]; omega
    have n2 : its2.toArray.size = es.length := by rw [List.size_toArray]; omega
    by_cases hsz : ds.length = es.length
    · refine SeqAt.RcAt.lists (e := pairT ds es) pa.isList pb.isList (by omega) (by omega) (fun j j1 j2 => ?_) X.prog X.w _ _ ?_
      · have := eqAt_Ts I ds es X.A.in1 vs us its its2 h2 g2 ra rb p1 p2 (by show X.A.units + 1 + _ < _; omega) j (by simpa using j1) (by simpa using j2)
        simpa using this
      · rw [n1, eqTs_len hsz]
        exact ⟨.bl _, H, I, rfl, q⟩
    · refine SeqAt.RcAt.lists_lengths pa.isList pb.isList (by rw [n1, n2]; simpa using hsz) (by omega) X.prog X.w _ _ ?_
      rw [← eqTs_other hsz]
      exact ⟨.bl _, H, I, rfl, q⟩
theorem op_neM (hu : X.A.units + 200 < cLine) : OpR X (compareOp .NotEq) (rEqM (zx X) true) := by
  intro pins s σ H x y v u Q I rx ry h
  obtain ⟨b, q, h⟩ := h
  rcases h with ⟨d, e, hd, he, p1, p2, hm, rfl⟩ | ⟨a, c, ds, es, vs, us, rfl, rfl, h1, g1, h2, g2, p1, p2, hm, rfl⟩
  · exact rcNeAt_T I d e X.A x y v u hd he rx ry p1 p2 (by omega) X.prog X.w _ _ ⟨.bl _, H, I, rfl, q⟩
  · cases rx; cases ry
    obtain ⟨its, ra, pa, _⟩ := I.list h1
    obtain ⟨its2, rb, pb, _⟩ := I.list g1
    have l1 := h2.length
    have l2 := g2.length
    have l3 := ra.length
    have l4 := rb.length
    have n1 : its.toArray.size = ds.length := by rw [List.size_toArray]; omega
    have n2 : its2.toArray.size = es.length := by rw [List.size_toArray]; omega
    by_cases hsz : ds.length = es.length
    · refine SeqAt.RcNeAt.lists (e := pairT ds es) pa.isList pb.isList (by omega) (by omega) (fun j j1 j2 => ?_) X.prog X.w _ _ ?_
      · have := eqAt_Ts I ds es X.A.in1 vs us its its2 h2 g2 ra rb p1 p2 (by show X.A.units + 1 + _ < _; omega) j (by simpa using j1) (by simpa using j2)
        simpa using this
      · rw [n1, eqTs_len hsz]
        exact ⟨.bl _, H, I, rfl, q⟩
    · refine SeqAt.RcNeAt.lists_lengths pa.isList pb.isList (by rw [n1, n2]; simpa using hsz) (by omega) X.prog X.w _ _ ?_
      rw [← Bool.not_false, ← eqTs_other hsz]
      exact ⟨.bl _, H, I, rfl, q⟩
end

/-! ### reading the store -/
def lstAt (S : Sto) (a : Addr) : Option (List T) := match S a with
  | some (.lst xs) => some xs
  | some (.ro xs) => some xs
  | _ => none
theorem lstAt_of {S : Sto} {a : Addr} {xs : List T} (h : S a = some (.lst xs)) : lstAt S a = some xs := by unfold lstAt; rw [h]
theorem lstAt_ro {S : Sto} {a : Addr} {xs : List T} (h : S a = some (.ro xs)) : lstAt S a = some xs := by unfold lstAt; rw [h]
section
variable {K : Zk} {H : Hp} {S : Sto}
theorem RelS.list (rs : RelS K S H) {a : Addr} {xs : List T} (h : lstAt S a = some xs) : ∃ vs, SqL K.K H a vs ∧ RTs K H xs vs := by
  unfold lstAt at h
  split at h
  · rename_i ys e
    cases h
    obtain ⟨vs, h1, h2⟩ := rs a _ e
    exact ⟨vs, .inl (.inl h1), h2⟩
  · rename_i ys e
    cases h
    obtain ⟨vs, h1, h2⟩ := rs a _ e
    exact ⟨vs, .inl h1, h2⟩
  · cases h
end

/-! ### operators -/
def oAdd : O2 := fun x y S Q => match x, y with
  | .int i, .int j => Q (.int (i + j)) S
  | .str a, .str b => a.length + b.length ≤ sizeLine ∧ Q (.str (a ++ b)) S
  | .tup a, .tup b => a.length + b.length ≤ sizeLine ∧ Q (.tup (a ++ b)) S
  | .adr a, .adr b => ∃ xs ys, S a = some (.lst xs) ∧ S b = some (.lst ys) ∧ xs.length + ys.length ≤ sizeLine ∧ NewO S (.lst (xs ++ ys)) Q
  | _, _ => False
def oSub : O2 := fun x y S Q => match x, y with
  | .int i, .int j => Q (.int (i - j)) S
  | _, _ => False
def oMul : O2 := fun x y S Q => match x, y with
  | .int i, .int j => CMul i j ∧ Q (.int (i * j)) S
  | .adr a, .int k => ∃ xs, S a = some (.lst xs) ∧ -(2 ^ 63) ≤ k ∧ k < 2 ^ 63 ∧ xs.length * k.toNat ≤ sizeLine ∧ NewO S (.lst (List.replicate k.toNat xs).flatten) Q
  | _, _ => False
def oDiv : O2 := fun x y S Q => match x, y with
  | .int i, .int j => CDivW i j ∧ Q (.int (i / j)) S
  | _, _ => False
def oMod : O2 := fun x y S Q => match x, y with
  | .int i, .int j => 0 < j ∧ Q (.int (i % j)) S
  | _, _ => False
def oPow : O2 := fun x y S Q => match x, y with
  | .int i, .int j => CPow i j ∧ Q (.int (i ^ j.toNat)) S
  | _, _ => False
def oLt : O2 := fun x y S Q => match x, y with
  | .int i, .int j => Q (.bl (decide (i < j))) S
  | .str i, .str j => Q (.bl (decide (i.cps.toList < j.cps.toList))) S
  | _, _ => False
def oLe : O2 := fun x y S Q => match x, y with
  | .int i, .int j => Q (.bl (decide (i ≤ j))) S
  | _, _ => False
def oGt : O2 := fun x y S Q => match x, y with
  | .int i, .int j => Q (.bl (decide (j < i))) S
  | _, _ => False
def oGe : O2 := fun x y S Q => match x, y with
  | .int i, .int j => Q (.bl (decide (j ≤ i))) S
  | _, _ => False
def eqG (neg : Bool) (b : Bool) : Bool := if neg then !b else b
def oEqG (neg : Bool) : O2 := fun x y S Q => match x, y with
  | .adr a, .adr b => ∃ xs ys, lstAt S a = some xs ∧ lstAt S b = some ys ∧ T.purs xs = true ∧ T.purs ys = true ∧ min (T.depths xs) (T.depths ys) ≤ 149 ∧ Q (.bl (eqG neg (eqTs xs ys))) S
  | x, y => x.pur = true ∧ y.pur = true ∧ min x.depth y.depth ≤ 150 ∧ Q (.bl (eqG neg (eqT x y))) S
abbrev oEq : O2 := oEqG false
abbrev oNe : O2 := oEqG true
def oIsG (neg : Bool) : O2 := fun x y S Q => match y with
  | .non => Q (.bl (eqG neg (match x with | .non => true | _ => false))) S
  | _ => False
section
variable {X : Cx}
theorem o2_add : Op2 (zx X) (fun x y H Q => (rI0 fun i j => V.int (i + j)) x y H Q ∨ (∃ i j, x = V.str i ∧ y = V.str j ∧ i.length + j.length ≤ sizeLine ∧ Q (.str (i ++ j)) H) ∨ rCatF X.K x y H Q ∨ rCat x y H Q) oAdd := by
  intro x y v u S H H0 Q R e rs rx ry q k
  unfold oAdd at q
  split at q
  · rw [rt_int] at rx ry
    exact .inl ⟨_, _, rx, ry, k _ _ (.here e rs (by rw [rt_int]) q)⟩
  · rw [rt_str] at rx ry
    exact .inr (.inl ⟨_, _, rx, ry, q.1, k _ _ (.here e rs (by rw [rt_str]) q.2)⟩)
  · rename_i xs ys
    rw [rt_tup] at rx ry
    obtain ⟨a, vs, rfl, h1, h2⟩ := rx
    obtain ⟨b, us, rfl, g1, g2⟩ := ry
    have l1 := h2.length
    have l2 := g2.length
    refine .inr (.inr (.inl ⟨a, b, vs, us, rfl, rfl, h1.sqT, g1.sqT, by omega, fun z => ?_, fun _ z => ?_, fun _ _ p ob hp hd => ?_⟩))
    · subst z
      have : xs = [] := by cases xs with | nil => rfl | cons _ _ => simp at l1
      subst this
      exact k _ _ (.here e rs (by rw [rt_tup]; exact ⟨b, us, rfl, g1, by simpa using g2⟩) q.2)
    · subst z
      have : ys = [] := by cases ys with | nil => rfl | cons _ _ => simp at l2
      subst this
      exact k _ _ (.here e rs (by rw [rt_tup]; exact ⟨a, vs, rfl, h1, by simpa using h2⟩) q.2)
    · exact k _ _ (.tup e rs hp hd (h2.append g2) q.2)
  · rw [rt_adr] at rx ry
    obtain ⟨xs, ys, h1, h2, hz, q⟩ := q
    obtain ⟨vs, a1, a2⟩ := rs _ _ h1
    obtain ⟨us, b1, b2⟩ := rs _ _ h2
    have l1 := a2.length
    have l2 := b2.length
    exact .inr (.inr (.inr ⟨_, _, _, _, rx, ry, a1, b1, by omega, fun p hp => k _ _ (.lst e rs hp (a2.append b2) (q.at (rs.none_of hp)))⟩))
  · exact q.elim
theorem o2_sub : Op2 (zx X) (rI0 fun i j => V.int (i - j)) oSub := by
  intro x y v u S H H0 Q R e rs rx ry q k
  unfold oSub at q
  split at q
  · rw [rt_int] at rx ry
    exact ⟨_, _, rx, ry, k _ _ (.here e rs (by rw [rt_int]) q)⟩
  · exact q.elim
theorem o2_mul : Op2 (zx X) (fun x y H Q => (rI CMul fun i j => V.int (i * j)) x y H Q ∨ rRep x y H Q) oMul := by
  intro x y v u S H H0 Q R e rs rx ry q k
  unfold oMul at q
  split at q
  · rw [rt_int] at rx ry
    exact .inl ⟨_, _, rx, ry, q.1, k _ _ (.here e rs (by rw [rt_int]) q.2)⟩
  · rw [rt_adr] at rx
    rw [rt_int] at ry
    obtain ⟨xs, h1, b1, b2, hz, q⟩ := q
    obtain ⟨vs, a1, a2⟩ := rs _ _ h1
    have l1 := a2.length
    exact .inr ⟨_, _, vs, rx, ry, a1, b1, b2, by rw [← l1]; exact hz, fun p hp => k _ _ (.lst e rs hp (a2.flatrep _) (q.at (rs.none_of hp)))⟩
  · exact q.elim
theorem o2_div : Op2 (zx X) (rI CDivW fun i j => V.int (i / j)) oDiv := by
  intro x y v u S H H0 Q R e rs rx ry q k
  unfold oDiv at q
  split at q
  · rw [rt_int] at rx ry
    exact ⟨_, _, rx, ry, q.1, k _ _ (.here e rs (by rw [rt_int]) q.2)⟩
  · exact q.elim
theorem o2_mod : Op2 (zx X) (rI (fun _ j => 0 < j) fun i j => V.int (i % j)) oMod := by
  intro x y v u S H H0 Q R e rs rx ry q k
  unfold oMod at q
  split at q
  · rw [rt_int] at rx ry
    exact ⟨_, _, rx, ry, q.1, k _ _ (.here e rs (by rw [rt_int]) q.2)⟩
  · exact q.elim
theorem o2_pow : Op2 (zx X) (rI CPow fun i j => V.int (i ^ j.toNat)) oPow := by
  intro x y v u S H H0 Q R e rs rx ry q k
  unfold oPow at q
  split at q
  · rw [rt_int] at rx ry
    exact ⟨_, _, rx, ry, q.1, k _ _ (.here e rs (by rw [rt_int]) q.2)⟩
  · exact q.elim
theorem o2_lt : Op2 (zx X) (fun x y H Q => (rI0 fun i j => V.bl (decide (i < j))) x y H Q ∨ (∃ i j, x = V.str i ∧ y = V.str j ∧ Q (.bl (decide (i.cps.toList < j.cps.toList))) H)) oLt := by
  intro x y v u S H H0 Q R e rs rx ry q k
  unfold oLt at q
  split at q
  · rw [rt_int] at rx ry
    exact .inl ⟨_, _, rx, ry, k _ _ (.here e rs (by rw [rt_bl]) q)⟩
  · rw [rt_str] at rx ry
    exact .inr ⟨_, _, rx, ry, k _ _ (.here e rs (by rw [rt_bl]) q)⟩
  · exact q.elim
theorem o2_le : Op2 (zx X) (rI0 fun i j => V.bl (decide (i ≤ j))) oLe := by
  intro x y v u S H H0 Q R e rs rx ry q k
  unfold oLe at q
  split at q
  · rw [rt_int] at rx ry
    exact ⟨_, _, rx, ry, k _ _ (.here e rs (by rw [rt_bl]) q)⟩
  · exact q.elim
theorem o2_gt : Op2 (zx X) (rI0 fun i j => V.bl (decide (j < i))) oGt := by
  intro x y v u S H H0 Q R e rs rx ry q k
  unfold oGt at q
  split at q
  · rw [rt_int] at rx ry
    exact ⟨_, _, rx, ry, k _ _ (.here e rs (by rw [rt_bl]) q)⟩
  · exact q.elim
theorem o2_ge : Op2 (zx X) (rI0 fun i j => V.bl (decide (j ≤ i))) oGe := by
  intro x y v u S H H0 Q R e rs rx ry q k
  unfold oGe at q
  split at q
  · rw [rt_int] at rx ry
    exact ⟨_, _, rx, ry, k _ _ (.here e rs (by rw [rt_bl]) q)⟩
  · exact q.elim
theorem o2_eq {neg : Bool} : Op2 (zx X) (rEqM (zx X) neg) (oEqG neg) := by
  intro x y v u S H H0 Q R e rs rx ry q k
  unfold oEqG at q
  split at q
  · rw [rt_adr] at rx ry
    obtain ⟨xs, ys, h1, h2, p1, p2, hd, q⟩ := q
    obtain ⟨vs, a1, a2⟩ := rs.list h1
    obtain ⟨us, b1, b2⟩ := rs.list h2
    exact ⟨_, k _ _ (.here e rs (by rw [rt_bl]; rfl) q), .inr ⟨_, _, _, _, _, _, rx, ry, a1, b1, a2, b2, p1, p2, hd, rfl⟩⟩
  · obtain ⟨p1, p2, hd, q⟩ := q
    exact ⟨_, k _ _ (.here e rs (by rw [rt_bl]; rfl) q), .inl ⟨_, _, rx, ry, p1, p2, hd, rfl⟩⟩
theorem o2_is : Op2 (zx X) (fun x y H Q => y = .non ∧ Q (.bl (decide (x = .non))) H) (oIsG false) := by
  intro x y v u S H H0 Q R e rs rx ry q k
  unfold oIsG at q
  split at q
  · rw [rt_non] at ry
    refine ⟨ry, k _ _ (.here e rs ?_ q)⟩
    rw [rt_bl]
    cases x with
    | non => rw [rt_non] at rx; subst rx; rfl
    | bl b => rw [rt_bl] at rx; subst rx; rfl
    | int b => rw [rt_int] at rx; subst rx; rfl
    | str b => rw [rt_str] at rx; subst rx; rfl
    | adr b => rw [rt_adr] at rx; subst rx; rfl
    | tup b => rw [rt_tup] at rx; obtain ⟨a, vs, rfl, _⟩ := rx; rfl
    | fl b => rw [rt_fl] at rx; obtain ⟨a, vs, rfl, _⟩ := rx; rfl
  · exact q.elim
theorem o2_isnot : Op2 (zx X) (fun x y H Q => y = .non ∧ Q (.bl (!decide (x = .non))) H) (oIsG true) := by
  intro x y v u S H H0 Q R e rs rx ry q k
  unfold oIsG at q
  split at q
  · rw [rt_non] at ry
    refine ⟨ry, k _ _ (.here e rs ?_ q)⟩
    rw [rt_bl]
    cases x with
    | non => rw [rt_non] at rx; subst rx; rfl
    | bl b => rw [rt_bl] at rx; subst rx; rfl
    | int b => rw [rt_int] at rx; subst rx; rfl
    | str b => rw [rt_str] at rx; subst rx; rfl
    | adr b => rw [rt_adr] at rx; subst rx; rfl
    | tup b => rw [rt_tup] at rx; obtain ⟨a, vs, rfl, _⟩ := rx; rfl
    | fl b => rw [rt_fl] at rx; obtain ⟨a, vs, rfl, _⟩ := rx; rfl
  · exact q.elim
variable {a b c : Expr} {pos : Pos} {ta tb' tc' : TTE}
theorem q_add (ha : QE X a ta) (hb : QE X b tb') : QE X (.BinOp a .Add b pos) (tb oAdd ta tb') := q_op (op_add.or (op_add_str.or (op_catF.or op_cat))) o2_add ha hb
theorem q_sub (ha : QE X a ta) (hb : QE X b tb') : QE X (.BinOp a .Sub b pos) (tb oSub ta tb') := q_op op_sub o2_sub ha hb
theorem q_mul (ha : QE X a ta) (hb : QE X b tb') : QE X (.BinOp a .Mult b pos) (tb oMul ta tb') := q_op (op_mul.or op_rep) o2_mul ha hb
theorem q_div (ha : QE X a ta) (hb : QE X b tb') : QE X (.BinOp a .FloorDiv b pos) (tb oDiv ta tb') := q_op op_fdivW o2_div ha hb
theorem q_mod (ha : QE X a ta) (hb : QE X b tb') : QE X (.BinOp a .Mod b pos) (tb oMod ta tb') := q_op op_mod o2_mod ha hb
theorem q_pow (ha : QE X a ta) (hb : QE X b tb') : QE X (.BinOp a .Pow b pos) (tb oPow ta tb') := q_op op_pow o2_pow ha hb
theorem q_lt (ha : QE X a ta) (hb : QE X b tb') : QE X (.Compare a [.Lt] [b] pos) (tb oLt ta tb') := q_cmp (op_lt.or op_lt_str) o2_lt ha hb (nobehind _ (by decide) (by decide))
theorem q_le (ha : QE X a ta) (hb : QE X b tb') : QE X (.Compare a [.LtE] [b] pos) (tb oLe ta tb') := q_cmp op_le o2_le ha hb (nobehind _ (by decide) (by decide))
theorem q_gt (ha : QE X a ta) (hb : QE X b tb') : QE X (.Compare a [.Gt] [b] pos) (tb oGt ta tb') := q_cmp op_gt o2_gt ha hb (nobehind _ (by decide) (by decide))
theorem q_ge (ha : QE X a ta) (hb : QE X b tb') : QE X (.Compare a [.GtE] [b] pos) (tb oGe ta tb') := q_cmp op_ge o2_ge ha hb (nobehind _ (by decide) (by decide))
theorem q_eq (hu : X.A.units + 200 < cLine) (ha : QE X a ta) (hb : QE X b tb') : QE X (.Compare a [.Eq] [b] pos) (tb oEq ta tb') := q_cmp (op_eqM hu) o2_eq ha hb (nobehind _ (by decide) (by decide))
theorem q_ne (hu : X.A.units + 200 < cLine) (ha : QE X a ta) (hb : QE X b tb') : QE X (.Compare a [.NotEq] [b] pos) (tb oNe ta tb') := q_cmp (op_neM hu) o2_eq ha hb (nobehind _ (by decide) (by decide))
theorem q_is (ha : QE X a ta) (hb : QE X b tb') : QE X (.Compare a [.Is] [b] pos) (tb (oIsG false) ta tb') := q_cmp op_isN o2_is ha hb (nobehind _ (by decide) (by decide))
theorem q_isnot (ha : QE X a ta) (hb : QE X b tb') : QE X (.Compare a [.IsNot] [b] pos) (tb (oIsG true) ta tb') := q_cmp op_notN o2_isnot ha hb (nobehind _ (by decide) (by decide))
theorem t_lt (ha : QE X a ta) (hb : QE X b tb') : QT X (.Compare a [.Lt] [b] pos) (tq (tb oLt ta tb')) := t_cmp (op_lt.or op_lt_str) o2_lt ha hb (nobehind _ (by decide) (by decide))
theorem t_le (ha : QE X a ta) (hb : QE X b tb') : QT X (.Compare a [.LtE] [b] pos) (tq (tb oLe ta tb')) := t_cmp op_le o2_le ha hb (nobehind _ (by decide) (by decide))
theorem t_gt (ha : QE X a ta) (hb : QE X b tb') : QT X (.Compare a [.Gt] [b] pos) (tq (tb oGt ta tb')) := t_cmp op_gt o2_gt ha hb (nobehind _ (by decide) (by decide))
theorem t_ge (ha : QE X a ta) (hb : QE X b tb') : QT X (.Compare a [.GtE] [b] pos) (tq (tb oGe ta tb')) := t_cmp op_ge o2_ge ha hb (nobehind _ (by decide) (by decide))
theorem t_eq (hu : X.A.units + 200 < cLine) (ha : QE X a ta) (hb : QE X b tb') : QT X (.Compare a [.Eq] [b] pos) (tq (tb oEq ta tb')) := t_cmp (op_eqM hu) o2_eq ha hb (nobehind _ (by decide) (by decide))
theorem t_ne (hu : X.A.units + 200 < cLine) (ha : QE X a ta) (hb : QE X b tb') : QT X (.Compare a [.NotEq] [b] pos) (tq (tb oNe ta tb')) := t_cmp (op_neM hu) o2_eq ha hb (nobehind _ (by decide) (by decide))
theorem t_is (ha : QE X a ta) (hb : QE X b tb') : QT X (.Compare a [.Is] [b] pos) (tq (tb (oIsG false) ta tb')) := t_cmp op_isN o2_is ha hb (nobehind _ (by decide) (by decide))
theorem t_isnot (ha : QE X a ta) (hb : QE X b tb') : QT X (.Compare a [.IsNot] [b] pos) (tq (tb (oIsG true) ta tb')) := t_cmp op_notN o2_isnot ha hb (nobehind _ (by decide) (by decide))
end
end TL
set_option Elab.async false
set_option linter.all false
set_option maxRecDepth 100000
/-! TL3: in, subscripts, slices, displays, tests, conditional expressions over T. -/
namespace TL
open PySem PySem.Spec PyProof.Rows L2

/-! ### tables over T -/
section
variable {κ : Type} [DecidableEq κ]
def valT (kvs : List (κ × T)) (k : κ) : Option T := (kvs.find? fun kv => decide (kv.1 = k)).map (·.2)
def putT (kvs : List (κ × T)) (k : κ) (v : T) : List (κ × T) :=
  if (kvs.any fun kv => decide (kv.1 = k)) = true then kvs.map (fun kv => if kv.1 = k then (kv.1, v) else kv) else kvs ++ [(k, v)]
def mergeT (kvs more : List (κ × T)) : List (κ × T) := more.foldl (fun acc kv => putT acc kv.1 kv.2) kvs
theorem valT_nil {k : κ} : valT ([] : List (κ × T)) k = none := rfl
theorem valT_pos {p : κ × T} {r : List (κ × T)} {k : κ} (e : p.1 = k) : valT (p :: r) k = some p.2 := by simp [valT, List.find?_cons, e]
theorem valT_neg {p : κ × T} {r : List (κ × T)} {k : κ} (e : ¬ p.1 = k) : valT (p :: r) k = valT r k := by simp [valT, List.find?_cons, e]
theorem valT_any (k : κ) : ∀ kvs : List (κ × T), (kvs.any fun kv => decide (kv.1 = k)) = (valT kvs k).isSome
  | [] => rfl
  | p :: r => by
    rw [List.any_cons]
    by_cases e : p.1 = k
    · simp only [valT_pos e, decide_eq_true e, Bool.true_or, Option.isSome_some]
    · rw [valT_neg e, decide_eq_false e, Bool.false_or]; exact valT_any k r
theorem length_putT (kvs : List (κ × T)) (k : κ) (v : T) : (putT kvs k v).length ≤ kvs.length + 1 := by
  unfold putT
  split
  · rw [List.length_map]; omega
  · rw [List.length_append, List.length_cons, List.length_nil]; omega
theorem putT_new {kvs : List (κ × T)} {k : κ} (v : T) (h : valT kvs k = none) : putT kvs k v = kvs ++ [(k, v)] := by
  unfold putT
  rw [valT_any, h]
  exact if_neg (by decide)
variable {K : Zk} {H : Hp}
/-- both are there, or neither -/
def ROp (K : Zk) (H : Hp) : Option T → Option V → Prop
  | some t, some v => RT K H t v
  | none, none => True
  | _, _ => False
theorem RKs.val : ∀ {kvs : List (κ × T)} {kv : List (κ × V)} (k : κ), RKs K H kvs kv → ROp K H (valT kvs k) (valV kv k)
  | _, _, k, .nil => True.intro
  | p :: ps, q :: qs, k, .cons h t => by
    by_cases e : p.1 = k
    · rw [valT_pos e, valV_pos (h.1.symm.trans e)]; exact h.2
    · rw [valT_neg e, valV_neg (fun z => e (h.1.trans z))]; exact RKs.val k t
theorem RKs.anyk : ∀ {kvs : List (κ × T)} {kv : List (κ × V)} (k : κ), RKs K H kvs kv → (kvs.any fun kv => decide (kv.1 = k)) = kv.any fun kv => decide (kv.1 = k)
  | _, _, k, .nil => rfl
  | p :: ps, q :: qs, k, .cons h t => by rw [List.any_cons, List.any_cons, RKs.anyk k t, h.1]
theorem RKs.repl : ∀ {kvs : List (κ × T)} {kv : List (κ × V)} (k : κ) {t : T} {v : V}, RKs K H kvs kv → RT K H t v → RKs K H (kvs.map fun p => if p.1 = k then (p.1, t) else p) (kv.map fun p => if p.1 = k then (p.1, v) else p)
  | _, _, k, t, v, .nil, _ => .nil
  | p :: ps, q :: qs, k, t, v, .cons h r, z => by
    rw [List.map_cons, List.map_cons]
    refine .cons ?_ (RKs.repl k r z)
    by_cases e : p.1 = k
    · rw [if_pos e, if_pos (h.1.symm.trans e)]; exact ⟨h.1, z⟩
    · rw [if_neg e, if_neg (fun z => e (h.1.trans z))]; exact h
theorem RKs.put {kvs : List (κ × T)} {kv : List (κ × V)} (k : κ) {t : T} {v : V} (r : RKs K H kvs kv) (z : RT K H t v) : RKs K H (putT kvs k t) (putK kv k v) := by
  unfold putT putK
  rw [r.anyk k]
  split
  · exact r.repl k z
  · exact Paired.snoc r ⟨rfl, z⟩
end
def keyT : T → Option Key
  | .int i => some (.inl i)
  | .str x => some (.inr x)
  | _ => none
def keysT : List T → Option (List Key)
  | [] => some []
  | t :: ts => (keyT t).bind fun k => (keysT ts).map fun ks => k :: ks
section
variable {K : Zk} {H : Hp}
theorem keyT_of {t : T} {v : V} {k : Key} (h : RT K H t v) (e : keyT t = some k) : v = kV k := by
  cases t with
  | int i => rw [rt_int] at h; cases e; exact h
  | str i => rw [rt_str] at h; cases e; exact h
  | _ => cases e
theorem keysT_of : ∀ {ts : List T} {vs : List V} {ks : List Key}, RTs K H ts vs → keysT ts = some ks → vs = ks.map kV
  | [], vs, ks, h, e => by rw [rts_nil] at h; cases e; exact h
  | t :: ts, vs, ks, h, e => by
    rw [rts_cons] at h
    obtain ⟨v, r, rfl, h1, h2⟩ := h
    unfold keysT at e
    cases e1 : keyT t with
    | none => rw [e1] at e; cases e
    | some k =>
      rw [e1] at e
      cases e2 : keysT ts with
      | none => rw [e2] at e; cases e
      | some ks' =>
        rw [e2] at e
        cases e
        rw [keyT_of h1 e1, keysT_of h2 e2]; rfl
end

/-! ### dicts read -/
def DG (K : Zk) (H : Hp) (a : Addr) (y : V) (o : Option V) : Prop := DGet H a y o ∨
  ∃ xs b k, H a = some (.ext (DxAt K a xs)) ∧ y = .ref b ∧ SqT K.K H b (k.map kV) ∧ (∀ q ∈ xs, SqT K.K H q.2.1 (q.1.map kV)) ∧ RelO o ((atKey xs k).map (·.2))
section
variable {X : Cx} {pins : List (Addr × Obj)} {σ : L2.St} {H : Hp} {s : Shared} {a : Addr} {y v : V} {u : Value} {o : Option V} {A : Around} {E : Value → Shared → Prop}
theorem key_ofQ (I : Inv X pins σ H s) {b : Addr} {ks : List Key} (e : SqT X.K H b (ks.map kV)) : (tupleKind (mixKind X.prog X.w)).is s.heap ks b := by
  obtain ⟨its, r, ⟨o, h1, h2, n, h3⟩, _⟩ := I.tuple e
  exact ⟨o, its.toArray, n, h1, h2, h3, by simpa using items_are r⟩
theorem dx_of (I : Inv X pins σ H s) {xs : List (List Key × Addr × Value)} (e : H a = some (.ext (DxAt (zx X) a xs))) (hk : ∀ q ∈ xs, SqT X.K H q.2.1 (q.1.map kV)) :
    (a == sysModules) = false ∧ xs.length ≤ sizeLine ∧ s.heap.DictOfH (tupleKind (mixKind X.prog X.w)) a xs := by
  obtain ⟨⟨hm, hz, ob, es, ep, h1, h2, h3, h4, h5⟩, _⟩ := (show ObjOk X.prog X.w H s.heap a (.ext (DxAt (zx X) a xs)) from I.hok a _ e)
  exact ⟨hm, hz, ob, es, ep, h1, h2, h3, h4, fun x hx => key_ofQ I (hk x hx), h5⟩
theorem g_typeIs (I : Inv X pins σ H s) (g : DG (zx X) H a y o) : s.TypeIs (.ref a) "dict" := by
  rcases g with g | ⟨xs, b, k, e, _, _, hk, _⟩
  · exact dict_typeIs I g
  · exact (dx_of I e hk).2.2.typeIs
theorem g_getItem {Q : Value → Shared → Prop} (hu : A.units + 1 < cLine) (I : Inv X pins σ H s) (g : DG (zx X) H a y (some v)) (ry : RelV y u) (h : ∀ w' s', Inv X pins σ H s' → RelV v w' → Q w' s') :
    wpAny (model X.prog X.w) A (getItem (.ref a) u) Q E s := by
  rcases g with g | ⟨xs, b, k, e, rfl, hb, hk, l⟩
  · exact d_getItem hu I g ry h
  · cases ry
    obtain ⟨_, _, dd⟩ := dx_of I e hk
    obtain ⟨w', hw, rw'⟩ := RelO.some_of (v := v) l
    obtain ⟨p, hp, hp2⟩ := Option.map_eq_some_iff.mp hw
    refine wpAny_getItem_heap (tupleKind_room_in1 hu) (key_ofQ I hb) dd hp ?_
    rw [hp2]
    exact h w' _ (I.tok _) rw'
theorem g_in {Q : Value → Shared → Prop} (hu : A.units + 1 < cLine) (I : Inv X pins σ H s) (g : DG (zx X) H a y o) (ry : RelV y u) (h : ∀ s', Inv X pins σ H s' → Q (.bool o.isSome) s') :
    wpAny (model X.prog X.w) A (compareOp .In u (.ref a)) Q E s := by
  rcases g with g | ⟨xs, b, k, e, rfl, hb, hk, l⟩
  · exact d_in hu I g ry h
  · cases ry
    obtain ⟨hd, _, dd⟩ := dx_of I e hk
    refine wpAny_in_heap (tupleKind_room_in1 hu) (key_ofQ I hb) hd dd ?_
    have q := l.isSome_eq
    rw [Option.isSome_map] at q
    rw [← q]
    exact h _ (I.tok _)
theorem g_notIn {Q : Value → Shared → Prop} (hu : A.units + 1 < cLine) (I : Inv X pins σ H s) (g : DG (zx X) H a y o) (ry : RelV y u) (h : ∀ s', Inv X pins σ H s' → Q (.bool (!o.isSome)) s') :
    wpAny (model X.prog X.w) A (compareOp .NotIn u (.ref a)) Q E s := by
  rcases g with g | ⟨xs, b, k, e, rfl, hb, hk, l⟩
  · exact d_notIn hu I g ry h
  · cases ry
    obtain ⟨hd, _, dd⟩ := dx_of I e hk
    refine wpAny_notIn_heap (tupleKind_room_in1 hu) (key_ofQ I hb) hd dd ?_
    have q := l.isSome_eq
    rw [Option.isSome_map] at q
    rw [← q]
    exact h _ (I.tok _)
end
section
variable {X : Cx}
def rIxG (K : Zk) : R2 := fun x y H Q => ∃ a v, x = .ref a ∧ DG K H a y (some v) ∧ Q v H
theorem ix_dg (hu : X.A.units + 1 < cLine) : IxR X (rIxG (zx X)) := by
  intro value slice pins s σ H x y v u Q I rx ry h hs
  obtain ⟨a, z, rfl, g, q⟩ := h
  cases rx
  have hT := g_typeIs I g
  unfold subscriptTail
  refine wpAny_bind ?_
  rw [getitemInPython_of_ne hT.not_modules]
  refine wpAny_bind (wpAny_specialOf hT PySem.F.slot_dict_getitem.lookup ?_)
  have fin : wpAny (model X.prog X.w) X.A (subscripted slice false (.ref a) u) (fun r s₃ => wpAny (model X.prog X.w) X.A (letTemporaryGo value (.ref a) r >>= fun _ => pure r) (EP X pins σ Q) X.xe s₃) X.xe s := by
    rw [hs]
    exact wpAny_operating (g_getItem hu I g ry fun w' s' I' rw' => wpAny_bind (wpAny_letTemporaryGo (wpAny_pure ⟨z, H, I', rw', q⟩)))
  first
    | exact wpAny_pure (wpAny_bind fin)
    | exact wpAny_bind (wpAny_pure (wpAny_bind fin))
    | exact wpAny_bind fin
def rInG (K : Zk) (neg : Bool) : R2 := fun x y H Q => ∃ a o, y = .ref a ∧ DG K H a x o ∧ Q (.bl (if neg then !o.isSome else o.isSome)) H
theorem op_inG (hu : X.A.units + 1 < cLine) : OpR X (compareOp .In) (rInG (zx X) false) := by
  intro pins s σ H x y v u Q I rx ry h
  obtain ⟨a, o, rfl, g, q⟩ := h
  cases ry
  exact g_in hu I g rx fun s' I' => ⟨.bl _, H, I', rfl, q⟩
theorem op_notInG (hu : X.A.units + 1 < cLine) : OpR X (compareOp .NotIn) (rInG (zx X) true) := by
  intro pins s σ H x y v u Q I rx ry h
  obtain ⟨a, o, rfl, g, q⟩ := h
  cases ry
  exact g_notIn hu I g rx fun s' I' => ⟨.bl _, H, I', rfl, q⟩
end
/-- what a dict tells for a key; none: no such dict, or no such key -/
def dget (S : Sto) (a : Addr) (y : T) : Option (Option T) := match S a with
  | some (.dk kvs) => (keyT y).map fun k => valT kvs k
  | some (.fk kvs) => (keyT y).map fun k => valT kvs k
  | some (.dx kvs) => match y with
    | .tup ks => (keysT ks).map fun k => valT kvs k
    | _ => none
  | _ => none
section
variable {K : Zk} {H : Hp} {S : Sto}
theorem RXs.val : ∀ {kvs : List (List Key × T)} {xs : List (List Key × Addr × Value)} (k : List Key), RXs K H kvs xs → ∃ o, ROp K H (valT kvs k) o ∧ RelO o ((atKey xs k).map (·.2))
  | _, _, k, .nil => ⟨none, True.intro, True.intro⟩
  | p :: ps, q :: qs, k, .cons h t => by
    obtain ⟨h1, h2, v, h3, h4⟩ := h
    by_cases e : p.1 = k
    · refine ⟨some v, ?_, ?_⟩
      · rw [valT_pos e]; exact h4
      · have b : atKey (q :: qs) k = some q.2 := by simp [atKey, List.find?_cons, h1.symm.trans e]
        rw [b]; exact h3
    · obtain ⟨o, a1, a2⟩ := RXs.val k t
      have e' : ¬ q.1 = k := fun z => e (h1.trans z)
      have b : atKey (q :: qs) k = atKey qs k := by simp [atKey, List.find?_cons, e']
      exact ⟨o, by rw [valT_neg e]; exact a1, by rw [b]; exact a2⟩
theorem RXs.keys : ∀ {kvs : List (List Key × T)} {xs : List (List Key × Addr × Value)}, RXs K H kvs xs → ∀ q ∈ xs, SqT K.K H q.2.1 (q.1.map kV)
  | _, _, .nil => fun q hq => nomatch hq
  | p :: ps, q :: qs, .cons h t => fun z hz => by
    rcases List.mem_cons.mp hz with rfl | hz
    · rw [← h.1]; exact h.2.1
    · exact RXs.keys t z hz
theorem dget_of (rs : RelS K S H) {a : Addr} {y : T} {v : V} {o : Option T} (e : dget S a y = some o) (ry : RT K H y v) : ∃ o', ROp K H o o' ∧ DG K H a v o' := by
  unfold dget at e
  split at e
  · rename_i kvs e1
    obtain ⟨kv, h1, h2⟩ := rs a _ e1
    cases e2 : keyT y with
    | none => rw [e2] at e; cases e
    | some k =>
      rw [e2] at e
      cases e
      rw [keyT_of ry e2]
      exact ⟨_, h2.val k, .inl (DGet.k h1)⟩
  · rename_i kvs e1
    obtain ⟨ob, kv, h1, h2⟩ := rs a _ e1
    cases e2 : keyT y with
    | none => rw [e2] at e; cases e
    | some k =>
      rw [e2] at e
      cases e
      rw [keyT_of ry e2]
      exact ⟨_, h2.val k, .inl (.inl ⟨kv, k, .inr ⟨ob, h1⟩, rfl, rfl⟩)⟩
  · rename_i kvs e1
    obtain ⟨xs, h1, h2⟩ := rs a _ e1
    split at e
    · rename_i ks
      cases e2 : keysT ks with
      | none => rw [e2] at e; cases e
      | some k =>
        rw [e2] at e
        cases e
        rw [rt_tup] at ry
        obtain ⟨b, vs, rfl, g1, g2⟩ := ry
        obtain ⟨o', a1, a2⟩ := h2.val k
        rw [keysT_of g2 e2] at g1
        exact ⟨o', a1, .inr ⟨xs, b, k, h1, rfl, g1.sqT, h2.keys, a2⟩⟩
    · cases e
  · cases e
end

/-! ### subscripts -/
def oIx : O2 := fun x y S Q => match x, y with
  | .tup xs, .int i => (match atI xs i with | some v => Q v S | none => False)
  | .fl xs, .int i => (match atI xs i with | some v => Q v S | none => False)
  | .str z, .int i => z.length ≤ sizeLine ∧ (match atI z.cps.toList i with | some c => Q (.str ⟨#[c]⟩) S | none => False)
  | .adr a, y => (match lstAt S a with
    | some xs => (match y with | .int i => (match atI xs i with | some v => Q v S | none => False) | _ => False)
    | none => (match dget S a y with | some (some v) => Q v S | _ => False))
  | _, _ => False
section
variable {K : Zk} {H : Hp}
theorem RTs.atI {ts : List T} {vs : List V} {i : Int} {t : T} (h : RTs K H ts vs) (e : L2.atI ts i = some t) : ∃ v, L2.atI vs i = some v ∧ RT K H t v := by
  unfold L2.atI at e ⊢
  rw [← h.length]
  cases e1 : ixN ts.length i with
  | none => rw [e1] at e; cases e
  | some j =>
    rw [e1] at e
    exact h.get (i := j) e
end
section
variable {X : Cx} {a b : Expr} {ta tb' : TTE} {pos : Pos}
theorem q_ix (hu : X.A.units + 200 < cLine) (ha : QE X a ta) (hb : QE X b tb') (hs : PlainIx b := by intro _ _; rfl) : QE X (.Subscript a b pos) (tb oIx ta tb') := by
  have op : Op2 (zx X) (fun x y H Q => rIx X.K x y H Q ∨ rIxG (zx X) x y H Q) oIx := by
    intro x y v u S H H0 Q R e rs rx ry q k
    unfold oIx at q
    split at q
    · split at q
      · rename_i t e1
        rw [rt_tup] at rx
        rw [rt_int] at ry
        obtain ⟨p, vs, rfl, h1, h2⟩ := rx
        obtain ⟨w, h3, h4⟩ := h2.atI e1
        exact .inl (.inr (.inl ⟨p, vs, _, w, rfl, ry, h1.sqT, h3, k _ _ (.here e rs h4 q)⟩))
      · exact q.elim
    · split at q
      · rename_i t e1
        rw [rt_fl] at rx
        rw [rt_int] at ry
        obtain ⟨p, vs, rfl, h1, h2⟩ := rx
        obtain ⟨w, h3, h4⟩ := h2.atI e1
        exact .inl (.inl ⟨p, vs, _, w, rfl, ry, h1.sqL, h3, k _ _ (.here e rs h4 q)⟩)
      · exact q.elim
    · obtain ⟨hz, q⟩ := q
      split at q
      · rename_i c e1
        rw [rt_str] at rx
        rw [rt_int] at ry
        exact .inl (.inr (.inr ⟨_, _, c, rx, ry, hz, e1, k _ _ (.here e rs (by rw [rt_str]) q)⟩))
      · exact q.elim
    · rw [rt_adr] at rx
      split at q
      · rename_i xs e1
        split at q
        · split at q
          · rename_i t e2
            rw [rt_int] at ry
            obtain ⟨vs, h1, h2⟩ := rs.list e1
            obtain ⟨w, h3, h4⟩ := h2.atI e2
            exact .inl (.inl ⟨_, vs, _, w, rx, ry, h1, h3, k _ _ (.here e rs h4 q)⟩)
          · exact q.elim
        · exact q.elim
      · split at q
        · rename_i t e2
          obtain ⟨o', h1, h2⟩ := dget_of rs e2 ry
          cases o' with
          | none => exact h1.elim
          | some w => exact .inr ⟨_, w, rx, h2, k _ _ (.here e rs h1 q)⟩
        · exact q.elim
    · exact q.elim
  exact qe_of (pe_ix (ix_seq.or (ix_dg (by omega))) ha hb hs) fun σ H ρ S Q rs re q => LE.mk rs re q fun x S1 v H1 e1 rs1 rx q1 => LE.mk rs1 (re.ext e1) q1 fun y S2 u H2 e2 rs2 ry q2 =>
    op x y v u S2 H2 H Q _ (e1.trans e2) rs2 (RT.ext e2 _ rx) ry q2 fun _ _ w => w
end

/-! ### slices -/
def cutT (xs : List T) (lo hi : Option Int) : List T := (xs.drop (HT.sIx xs.length 0 lo)).take (HT.sIx xs.length xs.length hi - HT.sIx xs.length 0 lo)
abbrev TTO := Rho → Sto → (Option Int → Sto → Prop) → Prop
def tno : TTO := fun _ S Q => Q none S
def tpt (t : TTE) : TTO := fun ρ S Q => t ρ S fun x S1 => match x with | .int i => Q (some i) S1 | _ => False
def oSl (x : T) (lo hi : Option Int) (S : Sto) (Q : T → Sto → Prop) : Prop := match x with
  | .tup xs => Q (.tup (cutT xs lo hi)) S
  | .str z => z.length ≤ sizeLine ∧ Q (.str (cutS z lo hi)) S
  | .fl xs => NewO S (.lst (cutT xs lo hi)) Q
  | .adr a => (match lstAt S a with | some xs => NewO S (.lst (cutT xs lo hi)) Q | none => False)
  | _ => False
def tsl (te : TTE) (tl th : TTO) : TTE := fun ρ S Q => te ρ S fun x S1 => tl ρ S1 fun l S2 => th ρ S2 fun u S3 => oSl x l u S3 Q
section
variable {X : Cx}
def LO (K : Zk) (t : TTO) : TO := fun σ H Q => ∃ ρ S Q', RelS K S H ∧ RelE K H σ ρ ∧ t ρ S Q' ∧ ∀ o S' H', Ext H H' → RelS K S' H' → Q' o S' → Q o H'
abbrev QO (X : Cx) (e : Option Expr) (t : TTO) : Prop := PO X e (LO (zx X) t)
theorem qo_none : QO X none tno := ⟨fun pins s σ H Q I h => by
  obtain ⟨ρ, S, Q', rs, re, q, m⟩ := h
  exact po_none.run pins s σ H Q I (m none S H (.refl _) rs q)⟩
theorem qo_some {e : Expr} {t : TTE} (h : QE X e t) : QO X (some e) (tpt t) := ⟨fun pins s σ H Q I hq => by
  obtain ⟨ρ, S, Q', rs, re, q, m⟩ := hq
  refine (po_some h).run pins s σ H Q I (LE.mk rs re q fun r S' v H' e rs' rr q' => ?_)
  cases r with
  | int i => rw [rt_int] at rr; exact ⟨i, rr, m _ _ _ e rs' q'⟩
  | _ => exact q'.elim⟩
theorem RTs.cut {K : Zk} {H : Hp} {ts : List T} {vs : List V} (h : RTs K H ts vs) (lo hi : Option Int) : RTs K H (cutT ts lo hi) (cutV vs lo hi) := by
  unfold cutT cutV
  rw [← h.length]
  exact (h.drop _).take _
theorem SlR.or' {r r' : V → Option Int → Option Int → Hp → VK → Prop} (h : L2.SlR X r) (h' : L2.SlR X r') : L2.SlR X (fun x lo hi H Q => r x lo hi H Q ∨ r' x lo hi H Q) := L2.SlR.or h h'
theorem cut_whole {xs : List V} {lo hi : Option Int} (h : HT.sIx xs.length 0 lo = 0 ∧ HT.sIx xs.length xs.length hi = xs.length) : cutV xs lo hi = xs := by
  unfold cutV
  rw [h.1, h.2]
  simp
theorem q_sl {e : Expr} {lo hi : Option Expr} {te : TTE} {tl th : TTO} {pos p2 : Pos} (he : QE X e te) (hl : QO X lo tl) (hh : QO X hi th) : QE X (.Subscript e (.Slice lo hi none p2) pos) (tsl te tl th) := by
  refine qe_of (pe_slice (sl_tupF.or (sl_list.or sl_str)) he hl hh) fun σ H ρ S Q rs re q => LE.mk rs re q fun x S1 v H1 e1 rs1 rx q1 =>
    ⟨ρ, S1, _, rs1, re.ext e1, q1, fun l S2 H2 e2 rs2 q2 => ⟨ρ, S2, _, rs2, (re.ext e1).ext e2, q2, fun u S3 H3 e3 rs3 q3 => ?_⟩⟩
  have ee := (e1.trans e2).trans e3
  have rx := RT.ext (e2.trans e3) _ rx
  unfold oSl at q3
  split at q3
  · rename_i xs
    rw [rt_tup] at rx
    obtain ⟨a, vs, rfl, h1, h2⟩ := rx
    have hc := h2.cut l u
    refine .inl ⟨a, vs, rfl, h1.sqT, fun hw => ?_, fun _ p ob hp hd => .tup ee rs3 hp hd hc q3⟩
    rw [cut_whole hw] at hc
    exact .here ee rs3 (by rw [rt_tup]; exact ⟨a, vs, rfl, h1, hc⟩) q3
  · rw [rt_str] at rx
    exact .inr (.inr ⟨_, rx, q3.1, .here ee rs3 (by rw [rt_str]) q3.2⟩)
  · rw [rt_fl] at rx
    obtain ⟨a, vs, rfl, h1, h2⟩ := rx
    exact .inr (.inl ⟨_, vs, rfl, h1.sqL, fun p hp => .lst ee rs3 hp (h2.cut l u) (q3.at (rs3.none_of hp))⟩)
  · rw [rt_adr] at rx
    split at q3
    · rename_i xs e4
      obtain ⟨vs, h1, h2⟩ := rs3.list e4
      exact .inr (.inl ⟨_, vs, rx, h1, fun p hp => .lst ee rs3 hp (h2.cut l u) (q3.at (rs3.none_of hp))⟩)
    · exact q3.elim
  · exact q3.elim
end
end TL
set_option Elab.async false
set_option linter.all false
set_option maxRecDepth 100000
/-! TL4: in, displays, tests, connectives, arguments over T. -/
namespace TL
open PySem PySem.Spec PyProof.Rows L2

/-! ### in -/
section
variable {X : Cx} {pins : List (Addr × Obj)} {σ : L2.St} {H : Hp} {s : Shared}
noncomputable def eqW (X : Cx) (H : Hp) (x : T) (u : Value) : Bool := @decide (∃ t v, RT (zx X) H t v ∧ RelV v u ∧ t.pur = true ∧ eqT t x = true) (Classical.propDecidable _)
theorem eqW_of (I : Inv X pins σ H s) {x t : T} {v : V} {u : Value} (h : RT (zx X) H t v) (r : RelV v u) (p : t.pur = true) : eqW X H x u = eqT t x := by
  unfold eqW
  cases e : eqT t x with
  | true => exact @decide_eq_true _ (Classical.propDecidable _) ⟨t, v, h, r, p, e⟩
  | false =>
    refine @decide_eq_false _ (Classical.propDecidable _) fun ⟨t', v', h', r', p', e'⟩ => ?_
    have : v' = v := r'.inj r
    subst this
    rw [RT.inj I t t' h h' p p'] at e
    rw [e] at e'; cases e'
theorem eqW_any (I : Inv X pins σ H s) {x : T} : ∀ {ts : List T} {vs : List V} {us : List Value}, RTs (zx X) H ts vs → Vals vs us → T.purs ts = true → us.any (eqW X H x) = ts.any fun t => eqT t x
  | [], vs, us, h, r, _ => by rw [rts_nil] at h; subst h; cases r; rfl
  | t :: ts, vs, us, h, r, p => by
    rw [rts_cons] at h
    obtain ⟨v, w, rfl, h1, h2⟩ := h
    rw [purs_cons, Bool.and_eq_true] at p
    cases r with
    | cons r1 r2 => rw [List.any_cons, List.any_cons, eqW_of I h1 r1 p.1, eqW_any I h2 r2 p.2]
theorem eqW_at (I : Inv X pins σ H s) {x : T} {vx : V} {ux : Value} (hx : RT (zx X) H x vx) (rx : RelV vx ux) (px : x.pur = true) : ∀ {ts : List T} {vs : List V} {us : List Value} {A : Around}, RTs (zx X) H ts vs → Vals vs us → T.purs ts = true →
    A.units + min (T.depths ts) x.depth < cLine → ∀ u ∈ us, SeqAt.EqAt A s u ux (eqW X H x u)
  | [], vs, us, A, h, r, _, _ => by rw [rts_nil] at h; subst h; cases r; intro u hu; cases hu
  | t :: ts, vs, us, A, h, r, p, hu => by
    rw [rts_cons] at h
    obtain ⟨v, w, rfl, h1, h2⟩ := h
    rw [purs_cons, Bool.and_eq_true] at p
    rw [depths_cons] at hu
    cases r with
    | cons r1 r2 =>
      intro u hu'
      rcases List.mem_cons.mp hu' with rfl | hu'
      · rw [eqW_of I h1 r1 p.1]
        exact eqAt_T I t x A _ _ _ _ h1 hx r1 rx p.1 px (by omega)
      · exact eqW_at I hx rx px h2 r2 p.2 (by omega) u hu'
end
section
variable {X : Cx}
def rInM (K : Zk) (neg : Bool) : R2 := fun x y H Q => ∃ t a ds vs, RT K H t x ∧ y = .ref a ∧ (SqL K.K H a vs ∨ SqT K.K H a vs) ∧ RTs K H ds vs ∧ t.pur = true ∧ T.purs ds = true ∧ min (T.depths ds) t.depth ≤ 149 ∧
  Q (.bl (if neg then !(ds.any fun z => eqT z t) else (ds.any fun z => eqT z t))) H
theorem op_inM (hu : X.A.units + 200 < cLine) : OpR X (compareOp .In) (rInM (zx X) false) := by
  intro pins s σ H x y v u Q I rx ry h
  obtain ⟨t, a, ds, vs, hx, rfl, hq, hd, p1, p2, hm, q⟩ := h
  cases ry
  rcases hq with hq | hq
  · obtain ⟨its, r, pl, hz⟩ := I.list hq
    refine SeqAt.in_listAt (eqW X H t) pl.isList (fun w hw => eqW_at I hx rx p1 (A := X.A.in1) hd r p2 (by show X.A.units + 1 + _ < _; omega) w (by simpa using hw)) ⟨.bl _, H, I, rfl, ?_⟩
    rw [show its.toArray.any (eqW X H t) = its.any (eqW X H t) by simp, eqW_any I hd r p2]
    exact q
  · obtain ⟨its, r, pl, hz⟩ := I.tuple hq
    refine SeqAt.in_tupleAt (eqW X H t) pl (fun w hw => eqW_at I hx rx p1 (A := X.A.in1) hd r p2 (by show X.A.units + 1 + _ < _; omega) w (by simpa using hw)) ⟨.bl _, H, I, rfl, ?_⟩
    rw [show its.toArray.any (eqW X H t) = its.any (eqW X H t) by simp, eqW_any I hd r p2]
    exact q
theorem op_notInM (hu : X.A.units + 200 < cLine) : OpR X (compareOp .NotIn) (rInM (zx X) true) := by
  intro pins s σ H x y v u Q I rx ry h
  obtain ⟨t, a, ds, vs, hx, rfl, hq, hd, p1, p2, hm, q⟩ := h
  cases ry
  rcases hq with hq | hq
  · obtain ⟨its, r, pl, hz⟩ := I.list hq
    refine SeqAt.notIn_listAt (eqW X H t) pl.isList (fun w hw => eqW_at I hx rx p1 (A := X.A.in1) hd r p2 (by show X.A.units + 1 + _ < _; omega) w (by simpa using hw)) ⟨.bl _, H, I, rfl, ?_⟩
    rw [show its.toArray.any (eqW X H t) = its.any (eqW X H t) by simp, eqW_any I hd r p2]
    exact q
  · obtain ⟨its, r, pl, hz⟩ := I.tuple hq
    refine SeqAt.notIn_tupleAt (eqW X H t) pl (fun w hw => eqW_at I hx rx p1 (A := X.A.in1) hd r p2 (by show X.A.units + 1 + _ < _; omega) w (by simpa using hw)) ⟨.bl _, H, I, rfl, ?_⟩
    rw [show its.toArray.any (eqW X H t) = its.any (eqW X H t) by simp, eqW_any I hd r p2]
    exact q
end
def strIn (c z : Str) : Bool := match c.cps.toList with
  | [n] => decide (n ∈ z.cps.toList)
  | _ => !(Builtin.Str.occurrences z c 0 z.length 1).isEmpty
def oInG (neg : Bool) : O2 := fun x y S Q => match y with
  | .tup ds => x.pur = true ∧ T.purs ds = true ∧ min (T.depths ds) x.depth ≤ 149 ∧ Q (.bl (eqG neg (ds.any fun z => eqT z x))) S
  | .str z => (match x with | .str c => Q (.bl (eqG neg (strIn c z))) S | _ => False)
  | .adr a => (match lstAt S a with
    | some ds => x.pur = true ∧ T.purs ds = true ∧ min (T.depths ds) x.depth ≤ 149 ∧ Q (.bl (eqG neg (ds.any fun z => eqT z x))) S
    | none => (match dget S a x with | some o => Q (.bl (eqG neg o.isSome)) S | none => False))
  | _ => False
section
variable {X : Cx}
theorem strIn_one {n : Nat} {z : Str} : strIn ⟨#[n]⟩ z = decide (n ∈ z.cps.toList) := rfl
theorem strIn_or (c z : Str) : (∃ n, c = ⟨#[n]⟩ ∧ strIn c z = decide (n ∈ z.cps.toList)) ∨ strIn c z = !(Builtin.Str.occurrences z c 0 z.length 1).isEmpty := by
  obtain ⟨⟨l⟩⟩ := c
  match l with
  | [] => exact .inr rfl
  | [n] => exact .inl ⟨n, rfl, rfl⟩
  | _ :: _ :: _ => exact .inr rfl
def rInStr (neg : Bool) : R2 := fun x y H Q => ∃ c z, x = .str c ∧ y = .str z ∧ Q (.bl (if neg then !strIn c z else strIn c z)) H
theorem op_inStr : OpR X (compareOp .In) (rInStr false) := by
  intro pins s σ H x y v u Q I rx ry h
  obtain ⟨c, z, rfl, rfl, q⟩ := h
  rcases strIn_or c z with ⟨n, rfl, e⟩ | e
  · rw [e] at q
    exact op_in_sign pins s σ H _ _ v u Q I rx ry ⟨n, z, rfl, rfl, q⟩
  · rw [e] at q
    exact op_in_str pins s σ H _ _ v u Q I rx ry ⟨c, z, rfl, rfl, q⟩
theorem op_notInStr : OpR X (compareOp .NotIn) (rInStr true) := by
  intro pins s σ H x y v u Q I rx ry h
  obtain ⟨c, z, rfl, rfl, q⟩ := h
  rcases strIn_or c z with ⟨n, rfl, e⟩ | e
  · rw [e] at q
    exact op_notIn_sign pins s σ H _ _ v u Q I rx ry ⟨n, z, rfl, rfl, q⟩
  · rw [e] at q
    exact op_notIn_str pins s σ H _ _ v u Q I rx ry ⟨c, z, rfl, rfl, q⟩
theorem o2_in {neg : Bool} : Op2 (zx X) (fun x y H Q => rInM (zx X) neg x y H Q ∨ rInG (zx X) neg x y H Q ∨ rInStr neg x y H Q) (oInG neg) := by
  intro x y v u S H H0 Q R e rs rx ry q k
  unfold oInG at q
  split at q
  · obtain ⟨p1, p2, hd, q⟩ := q
    rw [rt_tup] at ry
    obtain ⟨a, vs, rfl, h1, h2⟩ := ry
    exact .inl ⟨x, a, _, vs, rx, rfl, .inr h1.sqT, h2, p1, p2, hd, k _ _ (.here e rs (by rw [rt_bl]; rfl) q)⟩
  · split at q
    · rw [rt_str] at rx ry
      exact .inr (.inr ⟨_, _, rx, ry, k _ _ (.here e rs (by rw [rt_bl]; rfl) q)⟩)
    · exact q.elim
  · rw [rt_adr] at ry
    split at q
    · rename_i ds e1
      obtain ⟨p1, p2, hd, q⟩ := q
      obtain ⟨vs, h1, h2⟩ := rs.list e1
      exact .inl ⟨x, _, _, vs, rx, ry, .inl h1, h2, p1, p2, hd, k _ _ (.here e rs (by rw [rt_bl]; rfl) q)⟩
    · split at q
      · rename_i o e2
        obtain ⟨o', h1, h2⟩ := dget_of rs e2 rx
        refine .inr (.inl ⟨_, o', ry, h2, k _ _ (.here e rs ?_ q)⟩)
        rw [rt_bl]
        cases o with
        | none => cases o' with
          | none => rfl
          | some _ => exact h1.elim
        | some _ => cases o' with
          | none => exact h1.elim
          | some _ => rfl
      · exact q.elim
  · exact q.elim
variable {a b c : Expr} {pos : Pos} {ta tb' tc' : TTE}
theorem q_in (hu : X.A.units + 200 < cLine) (ha : QE X a ta) (hb : QE X b tb') (hm : behindInMarks .In b = false := by rfl) : QE X (.Compare a [.In] [b] pos) (tb (oInG false) ta tb') := q_cmp ((op_inM hu).or ((op_inG (by omega)).or op_inStr)) o2_in ha hb hm
theorem q_notin (hu : X.A.units + 200 < cLine) (ha : QE X a ta) (hb : QE X b tb') (hm : behindInMarks .NotIn b = false := by rfl) : QE X (.Compare a [.NotIn] [b] pos) (tb (oInG true) ta tb') := q_cmp ((op_notInM hu).or ((op_notInG (by omega)).or op_notInStr)) o2_in ha hb hm
theorem t_in (hu : X.A.units + 200 < cLine) (ha : QE X a ta) (hb : QE X b tb') (hm : behindInMarks .In b = false := by rfl) : QT X (.Compare a [.In] [b] pos) (tq (tb (oInG false) ta tb')) := t_cmp ((op_inM hu).or ((op_inG (by omega)).or op_inStr)) o2_in ha hb hm
theorem t_notin (hu : X.A.units + 200 < cLine) (ha : QE X a ta) (hb : QE X b tb') (hm : behindInMarks .NotIn b = false := by rfl) : QT X (.Compare a [.NotIn] [b] pos) (tq (tb (oInG true) ta tb')) := t_cmp ((op_notInM hu).or ((op_notInG (by omega)).or op_notInStr)) o2_in ha hb hm
end

/-! ### arguments, displays -/
def tan : TTA := fun _ S Q => Q [] S
def tac (t : TTE) (r : TTA) : TTA := fun ρ S Q => t ρ S fun x S1 => r ρ S1 fun xs S2 => Q (x :: xs) S2
def ttup (t : TTA) : TTE := fun ρ S Q => t ρ S fun xs S1 => xs.length ≤ sizeLine ∧ Q (.tup xs) S1
def tlst (t : TTA) : TTE := fun ρ S Q => t ρ S fun xs S1 => xs.length ≤ sizeLine ∧ NewO S1 (.lst xs) Q
section
variable {X : Cx} {e : Expr} {es : List Expr} {te : TTE} {t : TTA} {pos : Pos}
theorem qa_nil : QA X [] tan := qa_of pa_nil fun σ H ρ S Q rs re q => ⟨[], S, .refl _, rs, .nil, q⟩
theorem qa_cons (ha : QE X e te) (hr : QA X es t) (hs : starEach (e :: es) X.env = (false, eval e X.env) :: starEach es X.env := by rfl) : QA X (e :: es) (tac te t) :=
  qa_of (pa_cons ha hr hs) fun σ H ρ S Q rs re q => LE.mk rs re q fun x S1 v H1 e1 rs1 rx q1 => LA.mk rs1 (re.ext e1) q1 fun xs S2 vs H2 e2 rs2 rxs q2 => ⟨x :: xs, S2, e1.trans e2, rs2, .cons (RT.ext e2 _ rx) rxs, q2⟩
theorem q_tup {x1} (h : QA X es t) : QE X (.Tuple es x1 pos) (ttup t) :=
  qe_of (pe_tupF h) fun σ H ρ S Q rs re q => LA.mk rs re q fun xs S1 vs H1 e1 rs1 rx q1 => ⟨by rw [← rx.length]; exact q1.1, fun p ob hp hd => .tup e1 rs1 hp hd rx q1.2⟩
theorem q_lst (h : QA X es t) : QE X (.List es pos) (tlst t) :=
  qe_of (pe_lst h) fun σ H ρ S Q rs re q => LA.mk rs re q fun xs S1 vs H1 e1 rs1 rx q1 => ⟨by rw [← rx.length]; exact q1.1, fun p hp => .lst e1 rs1 hp rx (q1.2.at (rs1.none_of hp))⟩
theorem q_dict0 : QE X (.Dict [] [] pos) (fun _ S Q => NewO S (.dk []) Q) :=
  qe_of pe_dnewK fun σ H ρ S Q rs re q p hp => .laid (m := .dk []) (.refl _) rs hp ⟨[], upd_same, .nil⟩ (q.at (rs.none_of hp))
end
/-! a display {k: v, ..} -/
def tps : List (TTE × TTE) → Rho → Sto → (List (T × T) → Sto → Prop) → Prop
  | [], _, S, Q => Q [] S
  | (tk, tv) :: r, ρ, S, Q => tk ρ S fun x S1 => tv ρ S1 fun y S2 => tps r ρ S2 fun ps S3 => Q ((x, y) :: ps) S3
def keysOf : List (T × T) → Option (List (Key × T))
  | [] => some []
  | (x, y) :: r => (keyT x).bind fun k => (keysOf r).map fun ks => (k, y) :: ks
def tdisp (trs : List (TTE × TTE)) : TTE := fun ρ S Q => ∀ p S0, S p = none → Upd S p (.dk []) S0 → tps trs ρ S0 fun ps S1 => S1 p = some (.dk []) ∧ match keysOf ps with
  | some kvs => kvs.length ≤ 15 ∧ ∀ S2, Upd S1 p (.dk (mergeT [] kvs)) S2 → Q (.adr p) S2
  | none => False
section
variable {X : Cx}
def RPs (K : Zk) (H : Hp) : List (T × T) → List (V × V) → Prop := Paired fun p q => RT K H p.1 q.1 ∧ RT K H p.2 q.2
theorem RPs.ext {K : Zk} {H H' : Hp} (x : Ext H H') : ∀ {ps : List (T × T)} {qs : List (V × V)}, RPs K H ps qs → RPs K H' ps qs
  | _, _, .nil => .nil
  | _, _, .cons r t => .cons ⟨RT.ext x _ r.1, RT.ext x _ r.2⟩ (RPs.ext x t)
theorem keysOf_of {K : Zk} {H : Hp} : ∀ {ps : List (T × T)} {qs : List (V × V)} {kvs : List (Key × T)}, RPs K H ps qs → keysOf ps = some kvs → ∃ kv : List (Key × V), qs = kv.map (fun p => (kV p.1, p.2)) ∧ RKs K H kvs kv
  | [], _, kvs, .nil, e => by cases e; exact ⟨[], rfl, .nil⟩
  | (x, y) :: ps, q :: qs, kvs, .cons h t, e => by
    unfold keysOf at e
    cases e1 : keyT x with
    | none => rw [e1] at e; cases e
    | some k =>
      rw [e1] at e
      cases e2 : keysOf ps with
      | none => rw [e2] at e; cases e
      | some ks =>
        rw [e2] at e
        cases e
        obtain ⟨kv, h1, h2⟩ := keysOf_of t e2
        obtain ⟨q1, q2⟩ := q
        refine ⟨(k, q2) :: kv, ?_, .cons ⟨rfl, h.2⟩ h2⟩
        rw [List.map_cons, ← h1, ← keyT_of h.1 e1]
theorem RKs.merge {K : Zk} {H : Hp} : ∀ {more : List (Key × T)} {mv : List (Key × V)} {kvs : List (Key × T)} {kv : List (Key × V)}, RKs K H more mv → RKs K H kvs kv → RKs K H (mergeT kvs more) (mergeK kv mv)
  | _, _, _, _, .nil, r => r
  | p :: ps, q :: qs, kvs, kv, .cons h t, r => by
    show RKs K H (mergeT (putT kvs p.1 p.2) ps) (mergeK (putK kv q.1 q.2) qs)
    rw [← h.1]
    exact RKs.merge t (r.put p.1 h.2)
theorem RKs.length {κ : Type} {K : Zk} {H : Hp} : ∀ {kvs : List (κ × T)} {kv : List (κ × V)}, RKs K H kvs kv → kvs.length = kv.length
  | _, _, .nil => rfl
  | _, _, .cons _ t => by rw [List.length_cons, List.length_cons, RKs.length t]
def pairsE (K : Zk) (trs : List (TTE × TTE)) : List (TE × TE) := trs.map fun t => (LE K t.1, LE K t.2)
theorem tps_run {K : Zk} : ∀ (trs : List (TTE × TTE)) {σ : L2.St} {H : Hp} {ρ : Rho} {S : Sto} {Q : List (T × T) → Sto → Prop} {R : List (V × V) → Hp → Prop}, RelS K S H → RelE K H σ ρ → tps trs ρ S Q →
    (∀ ps S' qs H', Ext H H' → RelS K S' H' → RPs K H' ps qs → Q ps S' → R qs H') → tPairs (pairsE K trs) σ H R
  | [], σ, H, ρ, S, Q, R, rs, re, q, k => k [] S [] H (.refl _) rs .nil q
  | (tk, tv) :: r, σ, H, ρ, S, Q, R, rs, re, q, k => by
    show LE K tk σ H fun x H1 => LE K tv σ H1 fun y H2 => tPairs (pairsE K r) σ H2 fun ps H3 => R ((x, y) :: ps) H3
    refine LE.mk rs re q fun x S1 vx H1 e1 rs1 rx q1 => LE.mk rs1 (re.ext e1) q1 fun y S2 vy H2 e2 rs2 ry q2 => ?_
    refine tps_run r rs2 (re.ext (e1.trans e2)) q2 fun ps S3 qs H3 e3 rs3 rp q3 => ?_
    exact k _ _ _ _ ((e1.trans e2).trans e3) rs3 (.cons ⟨RT.ext (e2.trans e3) _ rx, RT.ext e3 _ ry⟩ rp) q3
/-- the pairs of a display -/
structure QPs (X : Cx) (pos : Pos) (keys : List (Option Expr)) (values : List Expr) (trs : List (TTE × TTE)) : Prop where
  run : PPs X pos keys values (pairsE (zx X) trs)
theorem qps_nil {pos : Pos} : QPs X pos [] [] [] := ⟨pps_nil⟩
theorem qps_cons {pos : Pos} {k v : Expr} {ks : List (Option Expr)} {vs : List Expr} {tk tv : TTE} {trs : List (TTE × TTE)} (hk : QE X k tk) (hv : QE X v tv) (hr : QPs X pos ks vs trs) : QPs X pos (some k :: ks) (v :: vs) ((tk, tv) :: trs) := ⟨pps_cons hk hv hr.run⟩
theorem q_disp {pos : Pos} {keys : List (Option Expr)} {values : List Expr} {trs : List (TTE × TTE)} (h : QPs X pos keys values trs) (hall : keys.all (·.isSome) = true := by rfl) (hl : keys.length = values.length := by rfl) (h0 : keys ≠ [] := by intro h; cases h)
    (h15 : keys.length ≤ 15 := by decide) : QE X (.Dict keys values pos) (tdisp trs) := by
  refine qe_of (pe_disp h.run hall hl h0 h15) fun σ H ρ S Q rs re q p hp => ?_
  have rs0 : RelS (zx X) (S.set p (.dk [])) (upd H p (.dK [])) := rs.put (.new hp) ⟨[], upd_same, .nil⟩
  refine tps_run trs rs0 (re.ext (.new hp)) (q p _ (rs.none_of hp) .of) fun ps S1 qs H1 e1 rs1 rp q1 => ?_
  obtain ⟨h1, q1⟩ := q1
  obtain ⟨kv0, h2, h3⟩ := rs1 p _ h1
  cases h3
  refine ⟨h2, ?_⟩
  split at q1
  · rename_i kvs e2
    obtain ⟨kv, g1, g2⟩ := keysOf_of rp e2
    have ew : Ext H1 (upd H1 p (.dK (mergeK [] kv))) := .write h2 (fun _ z => nomatch z) (fun _ _ z => nomatch z)
    refine ⟨kv, g1, by rw [← g2.length]; exact q1.1, ?_⟩
    exact ⟨.adr p, _, ((Ext.new hp).trans e1).trans ew, rs1.put (m := .dk (mergeT [] kvs)) ew ⟨_, upd_same, (g2.ext ew).merge .nil⟩, by rw [rt_adr], q1.2 _ .of⟩
  · exact q1.elim
end

/-! ### tests, connectives -/
def tand (t u : TTT) : TTT := fun ρ S Q => t ρ S fun c S1 => match c with | true => u ρ S1 Q | false => Q false S1
def tor (t u : TTT) : TTT := fun ρ S Q => t ρ S fun c S1 => match c with | true => Q true S1 | false => u ρ S1 Q
def tnot (t : TTT) : TTT := fun ρ S Q => t ρ S fun c S1 => Q (!c) S1
def tife (t : TTT) (a b : TTE) : TTE := fun ρ S Q => t ρ S fun c S1 => match c with | true => a ρ S1 Q | false => b ρ S1 Q
/-- and, or, not as values (bools) -/
def tandV (a b : TTE) : TTE := fun ρ S Q => a ρ S fun x S1 => match x with | .bl true => b ρ S1 Q | .bl false => Q (.bl false) S1 | _ => False
def torV (a b : TTE) : TTE := fun ρ S Q => a ρ S fun x S1 => match x with | .bl true => Q (.bl true) S1 | .bl false => b ρ S1 Q | _ => False
def tnotV (a : TTE) : TTE := fun ρ S Q => a ρ S fun x S1 => match x with | .bl c => Q (.bl (!c)) S1 | _ => False
section
variable {X : Cx} {a b c : Expr} {rest : List Expr} {pos : Pos} {ta tb' : TTE} {tA tB : TTT}
theorem t_val (h : QE X a ta) (he : ∀ whole, isTrue a X.env whole = (do let v ← whole; standAt a.pos; holding [v] (truthy v)) := by intro _; rfl) : QT X a (tq ta) :=
  qt_of (pt_val h he) fun σ H ρ S Q rs re q => LE.mk (Q := kq Q) rs re q fun r S' v H' e rs' rr q' => kq_of (WE.here e rs' rr q')
theorem w_and1 (ha : QT X a tA) : QW X (.BoolOp .And [a] pos) tA := pw_and1 ha
theorem w_or1 (ha : QT X a tA) : QW X (.BoolOp .Or [a] pos) tA := pw_or1 ha
theorem w_and (ha : QT X a tA) (hb : QW X (.BoolOp .And (b :: rest) pos) tB) : QW X (.BoolOp .And (a :: b :: rest) pos) (tand tA tB) :=
  qw_of (pw_and ha hb) fun σ H ρ S Q rs re q => LT.mk rs re q fun c S1 H1 e1 rs1 q1 => by
    cases c with
    | true => exact LT.mk rs1 (re.ext e1) q1 fun c S2 H2 e2 rs2 q2 => ⟨S2, e1.trans e2, rs2, q2⟩
    | false => exact ⟨S1, e1, rs1, q1⟩
theorem w_or (ha : QT X a tA) (hb : QW X (.BoolOp .Or (b :: rest) pos) tB) : QW X (.BoolOp .Or (a :: b :: rest) pos) (tor tA tB) :=
  qw_of (pw_or ha hb) fun σ H ρ S Q rs re q => LT.mk rs re q fun c S1 H1 e1 rs1 q1 => by
    cases c with
    | true => exact ⟨S1, e1, rs1, q1⟩
    | false => exact LT.mk rs1 (re.ext e1) q1 fun c S2 H2 e2 rs2 q2 => ⟨S2, e1.trans e2, rs2, q2⟩
theorem t_w (h : QW X a tA) : QT X a tA := h.pt
theorem t_not (ha : QT X a tA) : QT X (.UnaryOp .Not a pos) (tnot tA) :=
  qt_of (pt_not ha) fun σ H ρ S Q rs re q => LT.mk rs re q fun c S1 H1 e1 rs1 q1 => ⟨S1, e1, rs1, q1⟩
theorem q_ife {c : Expr} (hc : QT X c tA) (ha : QE X a ta) (hb : QE X b tb') : QE X (.IfExp c a b pos) (tife tA ta tb') :=
  qe_of (pe_ifExp hc ha hb) fun σ H ρ S Q rs re q => LT.mk rs re q fun c S1 H1 e1 rs1 q1 => by
    cases c with
    | true => exact LE.mk rs1 (re.ext e1) q1 fun r S2 v H2 e2 rs2 rr q2 => ⟨r, S2, e1.trans e2, rs2, rr, q2⟩
    | false => exact LE.mk rs1 (re.ext e1) q1 fun r S2 v H2 e2 rs2 rr q2 => ⟨r, S2, e1.trans e2, rs2, rr, q2⟩
theorem q_one {op} (h : QE X a ta) : QE X (.BoolOp op [a] pos) ta := pe_one h
theorem q_and (ha : QE X a ta) (hb : QE X (.BoolOp .And (b :: rest) pos) tb') : QE X (.BoolOp .And (a :: b :: rest) pos) (tandV ta tb') :=
  qe_of (pe_and ha hb) fun σ H ρ S Q rs re q => LE.mk rs re q fun r S1 v H1 e1 rs1 rr q1 => by
    cases r with
    | bl c =>
      rw [rt_bl] at rr
      refine ⟨c, rr, ?_⟩
      cases c with
      | true => exact LE.mk rs1 (re.ext e1) q1 fun r S2 v H2 e2 rs2 rr q2 => ⟨r, S2, e1.trans e2, rs2, rr, q2⟩
      | false => exact .here e1 rs1 (by rw [rt_bl]) q1
    | _ => exact q1.elim
theorem q_or (ha : QE X a ta) (hb : QE X (.BoolOp .Or (b :: rest) pos) tb') : QE X (.BoolOp .Or (a :: b :: rest) pos) (torV ta tb') :=
  qe_of (pe_or ha hb) fun σ H ρ S Q rs re q => LE.mk rs re q fun r S1 v H1 e1 rs1 rr q1 => by
    cases r with
    | bl c =>
      rw [rt_bl] at rr
      refine ⟨c, rr, ?_⟩
      cases c with
      | true => exact .here e1 rs1 (by rw [rt_bl]) q1
      | false => exact LE.mk rs1 (re.ext e1) q1 fun r S2 v H2 e2 rs2 rr q2 => ⟨r, S2, e1.trans e2, rs2, rr, q2⟩
    | _ => exact q1.elim
theorem q_not (ha : QE X a ta) : QE X (.UnaryOp .Not a pos) (tnotV ta) :=
  qe_of (pe_not ha) fun σ H ρ S Q rs re q => LE.mk rs re q fun r S1 v H1 e1 rs1 rr q1 => by
    cases r with
    | bl c => rw [rt_bl] at rr; exact ⟨c, rr, .here e1 rs1 (by rw [rt_bl]) q1⟩
    | _ => exact q1.elim
/-- -n -/
def tneg (a : TTE) : TTE := fun ρ S Q => a ρ S fun x S1 => match x with | .int i => Q (.int (-i)) S1 | _ => False
theorem q_neg (ha : QE X a ta) : QE X (.UnaryOp .USub a pos) (tneg ta) :=
  qe_of (pe_un un_neg ha) fun σ H ρ S Q rs re q => LE.mk rs re q fun r S1 v H1 e1 rs1 rr q1 => by
    cases r with
    | int i => rw [rt_int] at rr; exact ⟨i, rr, .here e1 rs1 (by rw [rt_int]) q1⟩
    | _ => exact q1.elim
end
end TL
set_option Elab.async false
set_option linter.all false
set_option maxRecDepth 100000
/-! TL5: statements, targets, loops, comprehensions over T. -/
namespace TL
open PySem PySem.Spec PyProof.Rows L2

/-! ### blocks -/
def tsNx : TTS := fun D ρ S => D.nx ρ S
def tsSeq (t u : TTS) : TTS := fun D ρ S => t { D with nx := u D } ρ S
def tsBrk : TTS := fun D ρ S => D.bk ρ S
def tsCt : TTS := fun D ρ S => D.ct ρ S
def tsDrop (te : TTE) : TTS := fun D ρ S => te ρ S fun _ S1 => D.nx ρ S1
def tsRet (te : TTE) : TTS := fun D ρ S => te ρ S D.rt
def tsRetN : TTS := fun D _ S => D.rt .non S
def tsIf (c : TTT) (t u : TTS) : TTS := fun D ρ S => c ρ S fun b S1 => match b with | true => t D ρ S1 | false => u D ρ S1
def tsAsg (te : TTE) (g : TTG) : TTS := fun D ρ S => te ρ S fun x S1 => g x ρ S1 D.nx
def tgN (i : Nat) : TTG := fun v ρ S Q => Q (ρ.set i (some v)) S
def tgsNil : TTGs := fun vs ρ S Q => match vs with | [] => Q ρ S | _ => False
def tgsCons (t : TTG) (u : TTGs) : TTGs := fun vs ρ S Q => match vs with | v :: r => t v ρ S fun ρ' S' => u r ρ' S' Q | [] => False
def tgTup (n : Nat) (t : TTGs) : TTG := fun v ρ S Q => match v with | .tup xs => xs.length = n ∧ t xs ρ S Q | _ => False
section
variable {X : Cx} {st : Stmt} {rest : List Stmt} {e : Expr} {te : TTE} {t u : TTS} {pos : Pos} {tc : TTT} {g : TTG}
theorem s_nil : QSs X [] tsNx := qss_of pss_nil fun σ H ρ S D rs re q => ⟨ρ, S, .refl _, rs, re, q⟩
theorem s_cons (h1 : QS X st t) (h2 : QSs X rest u) : QSs X (st :: rest) (tsSeq t u) :=
  qss_of (pss_cons h1 h2) fun σ H ρ S D rs re q => ⟨ρ, S, { D with nx := u D }, rs, re, q, fun σ' H' w => by
    obtain ⟨ρ', S', e, rs', re', q'⟩ := w
    exact LS.mk e rs' re' q', fun _ _ w => w, fun _ _ w => w, fun _ _ w => w⟩
theorem s_one (h1 : QS X st t) : QSs X [st] t := pss_one h1
theorem s_pass : QS X (.Pass pos) tsNx := qs_of ps_pass fun σ H ρ S D rs re q => ⟨ρ, S, .refl _, rs, re, q⟩
theorem s_brk : QS X (.Break pos) tsBrk := qs_of ps_break fun σ H ρ S D rs re q => ⟨ρ, S, .refl _, rs, re, q⟩
theorem s_ct : QS X (.Continue pos) tsCt := qs_of ps_continue fun σ H ρ S D rs re q => ⟨ρ, S, .refl _, rs, re, q⟩
theorem s_expr (he : QE X e te) (hs : swapsWith e none pos.line X.env = pure false := by rfl) : QS X (.Expr e pos) (tsDrop te) :=
  qs_of (ps_expr he hs) fun σ H ρ S D rs re q => LE.mk rs re q fun r S' v H' e rs' rr q' => ⟨ρ, S', e, rs', re.ext e, q'⟩
theorem s_ret (he : QE X e te) : QS X (.Return (some e) pos) (tsRet te) :=
  qs_of (ps_ret he) fun σ H ρ S D rs re q => LE.mk rs re q fun r S' v H' e rs' rr q' => ⟨r, S', e, rs', rr, q'⟩
theorem s_retN : QS X (.Return none pos) tsRetN := qs_of ps_retN fun σ H ρ S D rs re q => ⟨.non, S, .refl _, rs, by rw [rt_non], q⟩
theorem s_if {c : Expr} {a b : List Stmt} (hc : QT X c tc) (ha : QSs X a t) (hb : QSs X b u) : QS X (.If c a b pos) (tsIf tc t u) :=
  qs_of (ps_if hc ha hb) fun σ H ρ S D rs re q => LT.mk rs re q fun b S1 H1 e1 rs1 q1 => by
    cases b with
    | true => exact LS.mk e1 rs1 (re.ext e1) q1
    | false => exact LS.mk e1 rs1 (re.ext e1) q1
theorem g_name {i : Nat} {x : Str} (hN : X.N.Nodup) (hi : X.N[i]? = some x) (hx : Loc X.env.scope x) (hf : X.fn x = true ∨ X.env.scope.names.lookup x = some .local := by first | exact .inl rfl | exact .inr rfl | assumption) : QG X (.Name x pos) (tgN i) :=
  qg_of (pg_name hN hi hx hf) fun v σ H r ρ S Q rs re rr q => ⟨_, S, .refl _, rs, re.set rr i, q⟩
theorem gs_nil : QGs X [] tgsNil := qgs_of pgs_nil fun v σ H r ρ S Q rs re rr q => by
  cases r with
  | nil => rw [rts_nil] at rr; exact ⟨rr, ρ, S, .refl _, rs, re, q⟩
  | cons _ _ => exact q.elim
theorem gs_cons {es : List Expr} {gs : TTGs} (h1 : QG X e g) (h2 : QGs X es gs) (hs : (assignEach (e :: es) X.env).map (·.2) = assign e X.env :: (assignEach es X.env).map (·.2) := by rfl) : QGs X (e :: es) (tgsCons g gs) :=
  qgs_of (pgs_cons h1 h2 hs) fun v σ H r ρ S Q rs re rr q => by
    cases r with
    | nil => exact q.elim
    | cons t ts =>
      rw [rts_cons] at rr
      obtain ⟨w, ws, rfl, r1, r2⟩ := rr
      exact ⟨w, ws, rfl, t, ρ, S, _, rs, re, r1, q, fun σ' H' ⟨ρ', S', e, rs', re', q'⟩ => ⟨ts, ρ', S', Q, rs', re', RTs.ext e _ r2, q', fun _ _ w => w.ext e⟩⟩
theorem g_tup {es : List Expr} {k : Nat} {gs : TTGs} {n : Nat} (hc : X.calm = true) (h : QGs X es gs) (hn : (assignEach es X.env).length = n := by rfl) (hst : (assignEach es X.env).findIdx? (·.1) = none := by rfl) : QG X (.Tuple es k pos) (tgTup n gs) :=
  qg_of (pg_tup hc h hn hst) fun v σ H r ρ S Q rs re rr q => by
    cases r with
    | tup xs =>
      rw [rt_tup] at rr
      obtain ⟨a, vs, rfl, h1, h2⟩ := rr
      exact ⟨a, vs, rfl, h1.sqT, by rw [← h2.length]; exact q.1, xs, ρ, S, Q, rs, re, h2, q.2, fun _ _ w => w⟩
    | _ => exact q.elim
theorem s_asg {tg : Expr} (he : QE X e te) (hg : QG X tg g) (hs : swapsWithSole [tg] e pos.line X.env = pure false := by rfl) (hw : swappedStores [tg] e X.env = pure none := by rfl)
    (h1 : (assignEach [tg] X.env).map (·.2) = [assign tg X.env] := by rfl) : QS X (.Assign [tg] e pos) (tsAsg te g) :=
  qs_of (ps_asg he hg hs hw h1) fun σ H ρ S D rs re q => LE.mk rs re q fun r S' v H' e rs' rr q' => LG.mk e rs' (re.ext e) rr q'
theorem s_set {i : Nat} {x : Str} {pos' : Pos} (hN : X.N.Nodup) (hi : X.N[i]? = some x) (hx : Loc X.env.scope x) (he : QE X e te) (hs : swapsWith e (some (.Name x pos')) pos.line X.env = pure false := by rfl)
    (hf : X.fn x = true ∨ X.env.scope.names.lookup x = some .local := by first | exact .inl rfl | exact .inr rfl | assumption) : QS X (.Assign [.Name x pos'] e pos) (tsAsg te (tgN i)) :=
  qs_of (ps_set hN hi hx he hs hf) fun σ H ρ S D rs re q => LE.mk rs re q fun r S' v H' e rs' rr q' => ⟨_, S', e, rs', (re.ext e).set rr i, q'⟩
end

/-! ### o[i] = v -/
def oSet (o i v : T) (S : Sto) (Q : Sto → Prop) : Prop := match o with
  | .adr a => (match S a with
    | some (.lst xs) => (match i with | .int k => (match ixN xs.length k with | some j => Q (S.set a (.lst (xs.set j v))) | none => False) | _ => False)
    | some (.dk kvs) => (match keyT i with | some k => kvs.length < sizeLine ∧ Q (S.set a (.dk (putT kvs k v))) | none => False)
    | _ => False)
  | _ => False
def tgSub (to ti : TTE) : TTG := fun v ρ S Q => to ρ S fun o S1 => ti ρ S1 fun i S2 => oSet o i v S2 fun S3 => Q ρ S3
section
variable {X : Cx} {o i : Expr} {to ti : TTE} {pos : Pos}
def rSetD : TSet := fun o i v H Q => ∃ a H', o = .ref a ∧ DPut H a i v H' ∧ Q H'
theorem set_dict (hu : X.A.units + 1 < cLine) : PSet X rSetD := by
  intro pins s σ H o i v ov iv u Q I ro ri rv h
  obtain ⟨a, H', rfl, g, q⟩ := h
  cases ro
  exact d_setItem hu I g ri rv fun s' I' => ⟨H', I', q⟩
theorem psetOr {t u : TSet} (h : PSet X t) (h' : PSet X u) : PSet X (fun o i v H Q => t o i v H Q ∨ u o i v H Q) := by
  intro pins s σ H o i v ov iv w Q I ro ri rv q
  rcases q with q | q
  · exact h pins s σ H o i v ov iv w Q I ro ri rv q
  · exact h' pins s σ H o i v ov iv w Q I ro ri rv q
theorem g_sub (hu : X.A.units + 200 < cLine) (ho : QE X o to) (hi : QE X i ti)
    (ha : ∀ v, assign (.Subscript o i pos) X.env v = (do
      let ov ← holding [v] (eval o X.env)
      let iv ← holding [v, ov] (eval i X.env)
      standAt pos
      holding [v, ov, iv] (setItem ov iv v)
      release [v, ov, iv] []) := by intro _; rfl) : QG X (.Subscript o i pos) (tgSub to ti) := by
  refine qg_of (pg_sub ho hi (psetOr set_list (set_dict (by omega))) ha) fun v σ H r ρ S Q rs re rr q => LE.mk rs re q fun ot S1 ov H1 e1 rs1 r1 q1 => LE.mk rs1 (re.ext e1) q1 fun it S2 iv H2 e2 rs2 r2 q2 => ?_
  have rr := RT.ext (e1.trans e2) _ rr
  have r1 := RT.ext e2 _ r1
  have re2 := re.ext (e1.trans e2)
  unfold oSet at q2
  split at q2
  · rw [rt_adr] at r1
    split at q2
    · rename_i xs ex
      split at q2
      · split at q2
        · rename_i k j ej
          rw [rt_int] at r2
          obtain ⟨vs, h1, h2⟩ := rs2 _ _ ex
          have ew : Ext H2 (upd H2 _ (.lst (vs.set j v))) := .write h1 (fun _ z => nomatch z) (fun _ _ z => nomatch z)
          refine .inl ⟨_, vs, _, j, r1, r2, h1, by rw [← h2.length]; exact ej, ρ, _, (e1.trans e2).trans ew, rs2.put (m := .lst (xs.set j r)) ew ⟨_, upd_same, RTs.ext ew _ (RTs.set rr j h2)⟩, re2.ext ew, q2⟩
        · exact q2.elim
      · exact q2.elim
    · rename_i kvs ex
      split at q2
      · rename_i k ek
        obtain ⟨kv, h1, h2⟩ := rs2 _ _ ex
        have ew : Ext H2 (upd H2 _ (.dK (putK kv k v))) := .write h1 (fun _ z => nomatch z) (fun _ _ z => nomatch z)
        rw [keyT_of r2 ek]
        refine .inr ⟨_, _, r1, DPut.k h1 (by rw [← h2.length]; exact q2.1), ρ, _, (e1.trans e2).trans ew, rs2.put (m := .dk (putT kvs k r)) ew ⟨_, upd_same, (h2.put k rr).ext ew⟩, re2.ext ew, q2.2⟩
      · exact q2.elim
    · exact q2.elim
  · exact q2.elim
end

/-! ### for, while -/
def tsFor (w : TTI) (g : TTG) (tb : TTS) : TTS := fun D ρ S => w ρ S fun src S1 => ∃ I : Nat → Rho → Sto → Prop, I 0 ρ S1 ∧ ∀ i ρ' S', I i ρ' S' → src.live S' ∧ match src.items[i]? with
  | none => D.nx ρ' S'
  | some x => g x ρ' S' fun ρ2 S2 => tb { nx := I (i + 1), rt := D.rt, bk := D.nx, ct := I (i + 1) } ρ2 S2
def tsWhile (c : TTT) (tb : TTS) : TTS := fun D ρ S => ∃ W : Nat → Rho → Sto → Prop, (∃ m, W m ρ S) ∧ ∀ m ρ' S', W m ρ' S' → c ρ' S' fun b S2 => match b with
  | true => tb { nx := fun ρ3 S3 => ∃ m', m' < m ∧ W m' ρ3 S3, rt := D.rt, bk := D.nx, ct := fun ρ3 S3 => ∃ m', m' < m ∧ W m' ρ3 S3 } ρ' S2
  | false => D.nx ρ' S2
section
variable {X : Cx} {tg iter c : Expr} {body : List Stmt} {w : TTI} {g : TTG} {tb : TTS} {tc : TTT} {pos : Pos}
theorem s_for (hp : PassesOwn (model X.prog X.w) X.A X.env X.xe) (hc : X.calm = true) (hi : QI X tg iter w) (hg : QG X tg g) (hb : QSs X body tb) (hs : ∀ x, foldedSetIterable iter X.env x = pure x := by intro _; rfl) : QS X (.For tg iter body [] pos) (tsFor w g tb) := by
  refine qs_of (ps_for hp hc hi hg hb hs) fun σ H ρ S D rs re q => ⟨ρ, S, _, rs, re, q, fun src S1 J H1 e1 rs1 fit q1 => ?_⟩
  obtain ⟨I, i0, turn⟩ := q1
  refine ⟨fun i m σ' H' => m = src.items.length - i ∧ ∃ ρ' S', Ext H1 H' ∧ RelS (zx X) S' H' ∧ RelE (zx X) H' σ' ρ' ∧ I i ρ' S', ⟨_, rfl, ρ, S1, .refl _, rs1, re.ext e1, i0⟩, ?_⟩
  rintro i m σ' H' ⟨rfl, ρ', S', e2, rs2, re2, hI⟩
  obtain ⟨live, t⟩ := turn i ρ' S' hI
  cases ei : src.items[i]? with
  | none =>
    rw [ei] at t
    exact .inl ⟨fit.stop i S' H' rs2 e2 live ei, ρ', S', e1.trans e2, rs2, re2, t⟩
  | some x =>
    rw [ei] at t
    have hlt : i < src.items.length := (List.getElem?_eq_some_iff.mp ei).1
    obtain ⟨go, yl⟩ := fit.go i S' H' x rs2 e2 live ei
    refine .inr ⟨go, fun σ3 H3 => ∃ ρ3 S3, Ext H1 H3 ∧ RelS (zx X) S3 H3 ∧ RelE (zx X) H3 σ3 ρ3 ∧ I (i + 1) ρ3 S3, fun σ3 H3 ⟨ρ3, S3, a1, a2, a3, a4⟩ => ⟨_, by omega, rfl, ρ3, S3, a1, a2, a3, a4⟩, fun v H'' y => ?_⟩
    obtain ⟨e3, rs3, rx⟩ := yl v H'' y
    refine ⟨x, ρ', S', _, rs3, re2.ext e3, rx, t, fun σ4 H4 ⟨ρ4, S4, e4, rs4, re4, q4⟩ => ?_⟩
    have e14 := (e2.trans e3).trans e4
    refine ⟨ρ4, S4, _, rs4, re4, q4, fun σ5 H5 ⟨ρ5, S5, b1, b2, b3, b4⟩ => ⟨ρ5, S5, e14.trans b1, b2, b3, b4⟩, fun v H5 w => w.ext (e1.trans e14), fun σ5 H5 w => w.ext (e1.trans e14), fun σ5 H5 ⟨ρ5, S5, b1, b2, b3, b4⟩ => ⟨ρ5, S5, e14.trans b1, b2, b3, b4⟩⟩
theorem s_while (hp : PassesOwn (model X.prog X.w) X.A X.env X.xe) (hc : QT X c tc) (hb : QSs X body tb) : QS X (.While c body [] pos) (tsWhile tc tb) := by
  refine qs_of (ps_while hp hc hb) fun σ H ρ S D rs re q => ?_
  obtain ⟨W, ⟨m0, w0⟩, turn⟩ := q
  refine ⟨fun m σ' H' => ∃ ρ' S', Ext H H' ∧ RelS (zx X) S' H' ∧ RelE (zx X) H' σ' ρ' ∧ W m ρ' S', ⟨m0, ρ, S, .refl _, rs, re, w0⟩, ?_⟩
  rintro m σ' H' ⟨ρ', S', e1, rs1, re1, w1⟩
  refine LT.mk rs1 re1 (turn m ρ' S' w1) fun b S2 H2 e2 rs2 q2 => ?_
  cases b with
  | true =>
    refine ⟨fun σ3 H3 => ∃ ρ3 S3, Ext H H3 ∧ RelS (zx X) S3 H3 ∧ RelE (zx X) H3 σ3 ρ3 ∧ ∃ m', m' < m ∧ W m' ρ3 S3, fun σ3 H3 ⟨ρ3, S3, a1, a2, a3, m', hm, a4⟩ => ⟨m', hm, ρ3, S3, a1, a2, a3, a4⟩, ?_⟩
    have e12 := e1.trans e2
    exact ⟨ρ', S2, _, rs2, re1.ext e2, q2, fun σ5 H5 ⟨ρ5, S5, b1, b2, b3, b4⟩ => ⟨ρ5, S5, e12.trans b1, b2, b3, b4⟩, fun v H5 w => w.ext e12, fun σ5 H5 w => w.ext e12, fun σ5 H5 ⟨ρ5, S5, b1, b2, b3, b4⟩ => ⟨ρ5, S5, e12.trans b1, b2, b3, b4⟩⟩
  | false => exact ⟨ρ', S2, e1.trans e2, rs2, re1.ext e2, q2⟩
end

/-! ### comprehensions -/
theorem wipe_comm (σ : L2.St) (i : Nat) (x : Option V) : ∀ vs : List Nat, i ∉ vs → L2.wipe (σ.set i x) vs = (L2.wipe σ vs).set i x
  | [], _ => rfl
  | v :: vs, h => by
    unfold L2.wipe
    rw [wipe_comm σ i x vs (fun z => h (List.mem_cons_of_mem _ z)), List.set_comm _ _ (fun e => h (by rw [e]; exact List.mem_cons_self))]
theorem wipe_set (σ : L2.St) (i : Nat) (x : Option V) : ∀ vs : List Nat, i ∈ vs → L2.wipe (σ.set i x) vs = L2.wipe σ vs
  | [], h => by cases h
  | v :: vs, h => by
    unfold L2.wipe
    by_cases hm : i ∈ vs
    · rw [wipe_set σ i x vs hm]
    · have e : i = v := by
        rcases List.mem_cons.mp h with e | e
        · exact e
        · exact absurd e hm
      subst e
      rw [wipe_comm σ i x vs hm, List.set_set]
theorem wipe_wipe (σ : L2.St) (vs : List Nat) : ∀ us : List Nat, (∀ u ∈ us, u ∈ vs) → L2.wipe (L2.wipe σ us) vs = L2.wipe σ vs
  | [], _ => rfl
  | u :: us, h => by
    conv => lhs; arg 1; unfold L2.wipe
    rw [wipe_set _ _ _ vs (h u List.mem_cons_self), wipe_wipe σ vs us fun z hz => h z (List.mem_cons_of_mem _ hz)]
/-- what a comprehension's target does -/
structure TBind (K : Zk) (vs : List Nat) (g : TG) (bt : T → Rho → Option Rho) : Prop where
  run : ∀ x v σ H ρ ρ2 Q, RelE K H σ ρ → RT K H x v → bt x ρ = some ρ2 → (∀ σ2, RelE K H σ2 ρ2 → L2.wipe σ2 vs = L2.wipe σ vs → Q σ2 H) → g v σ H Q
def bt1 (i : Nat) : T → Rho → Option Rho := fun x ρ => some (ρ.set i (some x))
def setsT : List Nat → List T → Rho → Option Rho
  | [], [], ρ => some ρ
  | i :: is, x :: xs, ρ => setsT is xs (ρ.set i (some x))
  | _, _, _ => none
def btN (is : List Nat) : T → Rho → Option Rho := fun x ρ => match x with | .tup xs => setsT is xs ρ | _ => none
theorem tbind1 {K : Zk} {vs : List Nat} {i : Nat} (h : i ∈ vs := by decide) : TBind K vs (gName i) (bt1 i) := ⟨fun x v σ H ρ ρ2 Q re rx e k => by
  cases e
  exact k _ (re.set rx i) (wipe_set σ i _ vs h)⟩
def gNames : List Nat → TGs
  | [] => gNil
  | i :: is => gCons (gName i) (gNames is)
theorem sets_run {K : Zk} {vs : List Nat} : ∀ (is : List Nat) (xs : List T) (ws : List V) (σ : L2.St) (H : Hp) (ρ ρ2 : Rho) (Q : L2.St → Hp → Prop), (∀ i ∈ is, i ∈ vs) → RelE K H σ ρ → RTs K H xs ws → setsT is xs ρ = some ρ2 →
    (∀ σ2, RelE K H σ2 ρ2 → L2.wipe σ2 vs = L2.wipe σ vs → Q σ2 H) → gNames is ws σ H Q
  | [], [], ws, σ, H, ρ, ρ2, Q, hi, re, rx, e, k => by
    cases e
    rw [rts_nil] at rx
    exact ⟨rx, k _ re rfl⟩
  | [], _ :: _, ws, σ, H, ρ, ρ2, Q, hi, re, rx, e, k => by cases e
  | _ :: _, [], ws, σ, H, ρ, ρ2, Q, hi, re, rx, e, k => by cases e
  | i :: is, x :: xs, ws, σ, H, ρ, ρ2, Q, hi, re, rx, e, k => by
    rw [rts_cons] at rx
    obtain ⟨v, r, rfl, h1, h2⟩ := rx
    refine ⟨v, r, rfl, ?_⟩
    exact sets_run is xs r (σ.set i (some v)) H (ρ.set i (some x)) ρ2 Q (fun z hz => hi z (List.mem_cons_of_mem _ hz)) (re.set h1 i) h2 e fun σ2 r2 w2 => k σ2 r2 (w2.trans (wipe_set σ i _ vs (hi i List.mem_cons_self)))
theorem setsT_len : ∀ {is : List Nat} {xs : List T} {ρ ρ2 : Rho}, setsT is xs ρ = some ρ2 → xs.length = is.length
  | [], [], _, _, _ => rfl
  | [], _ :: _, _, _, e => by cases e
  | _ :: _, [], _, _, e => by cases e
  | i :: is, x :: xs, ρ, ρ2, e => by rw [List.length_cons, List.length_cons, setsT_len (is := is) (xs := xs) e]
theorem tbindN {K : Zk} {vs is : List Nat} {n : Nat} (hn : is.length = n) (h : ∀ i ∈ is, i ∈ vs := by decide) : TBind K vs (gTup K.K n (gNames is)) (btN is) := ⟨fun x v σ H ρ ρ2 Q re rx e k => by
  cases x with
  | tup xs =>
    rw [rt_tup] at rx
    obtain ⟨a, ws, rfl, h1, h2⟩ := rx
    have hl := setsT_len (is := is) (xs := xs) e
    exact ⟨a, ws, rfl, h1.sqT, by rw [← h2.length, hl, hn], sets_run is xs ws σ H ρ ρ2 Q h re h2 e k⟩
  | _ => cases e⟩
def tlc (w : TTI) (bt : T → Rho → Option Rho) (tt : TTT) (te : TTE) (vs : List Nat) : TTE := fun ρ S Q => w ρ S fun src S1 => ∀ D, S1 D = none → ∃ I : Nat → List T → Sto → Prop, (∀ S0, Upd S1 D (.lst []) S0 → I 0 [] S0) ∧ ∀ i acc S', I i acc S' → S' D = some (.lst acc) ∧ src.live S' ∧ match src.items[i]? with
  | none => Q (.adr D) S'
  | some x => (match bt x (wipeT ρ vs) with
    | some ρ2 => tt ρ2 S' fun b S3 => match b with
      | true => te ρ2 S3 fun y S4 => S4 D = some (.lst acc) ∧ acc.length < sizeLine ∧ ∀ S5, Upd S4 D (.lst (acc ++ [y])) S5 → I (i + 1) (acc ++ [y]) S5
      | false => I (i + 1) acc S3
    | none => False)
def ttYes : TTT := fun _ S Q => Q true S
abbrev QTs (X : Cx) (ifs : List Expr) (t : TTT) : Prop := PTs X ifs (LT (zx X) t)
section
variable {X : Cx} {elt tg iter : Expr} {ifs : List Expr} {scope : Scope} {own : List (Str × Nat)} {pos : Pos} {w : TTI} {g : TG} {bt : T → Rho → Option Rho} {tt : TTT} {te : TTE}
theorem ts_nil : QTs X [] ttYes := ⟨fun pins s σ H Q I h => by
  obtain ⟨ρ, S, Q', rs, re, q, m⟩ := h
  exact pts_nil.run pins s σ H Q I (m _ _ ⟨S, .refl _, rs, q⟩)⟩
theorem ts_one {c : Expr} {t : TTT} (h : QT X c t) : QTs X [c] t := pts_one h
theorem lc_read {K : Zk} {vs : List Nat} (tb : TBind K vs g bt) (σ : L2.St) (H : Hp) (ρ : Rho) (S : Sto) (Q : T → Sto → Prop) (R : VK) (rs : RelS K S H) (re : RelE K H σ ρ) (q : tlc w bt tt te vs ρ S Q) (hR : ∀ v H', WE K H Q v H' → R v H') :
    tLc (LI K w) g (LT K tt) (LE K te) vs σ H R := by
  refine ⟨ρ, S, _, rs, re, q, fun src S1 J H1 e1 rs1 fit q1 => ?_⟩
  intro D hD
  obtain ⟨I, i0, turn⟩ := q1 D (rs1.none_of hD)
  refine ⟨fun i m H' => m = src.items.length - i ∧ ∃ S' acc, Ext H1 H' ∧ RelS K S' H' ∧ I i acc S',
    ⟨_, rfl, _, [], .new hD, rs1.put (m := .lst []) (.new hD) ⟨[], upd_same, .nil⟩, i0 _ .of⟩, ?_⟩
  rintro i m H' ⟨rfl, S', acc, e2, rs2, hI⟩
  obtain ⟨hS, live, t⟩ := turn i acc S' hI
  cases ei : src.items[i]? with
  | none =>
    rw [ei] at t
    exact .inl ⟨fit.stop i S' H' rs2 e2 live ei, hR _ _ ⟨.adr D, _, e1.trans e2, rs2, by rw [rt_adr], t⟩⟩
  | some x =>
    rw [ei] at t
    have hlt : i < src.items.length := (List.getElem?_eq_some_iff.mp ei).1
    obtain ⟨go, yl⟩ := fit.go i S' H' x rs2 e2 live ei
    refine .inr ⟨go, fun H3 => ∃ S3 acc3, Ext H1 H3 ∧ RelS K S3 H3 ∧ I (i + 1) acc3 S3, fun H3 ⟨S3, acc3, a1, a2, a3⟩ => ⟨_, by omega, rfl, S3, acc3, a1, a2, a3⟩, fun v H'' y => ?_⟩
    obtain ⟨e3, rs3, rx⟩ := yl v H'' y
    simp only at t
    split at t
    · rename_i ρ2 eb
      refine tb.run x v _ H'' _ ρ2 _ ((re.ext ((e1.trans e2).trans e3)).wipe vs) rx eb fun σ2 re2 w2 => ⟨w2.trans (wipe_wipe σ vs vs fun _ h => h), ?_⟩
      refine LT.mk rs3 re2 t fun b S4 H4 e4 rs4 q4 => ?_
      cases b with
      | true =>
        refine LE.mk rs4 (re2.ext e4) q4 fun y S5 yv H5 e5 rs5 ry q5 => ?_
        obtain ⟨hD5, hz, hI5⟩ := q5
        obtain ⟨ws, h1, h2⟩ := rs5 D _ hD5
        have ew : Ext H5 (upd H5 D (.lst (ws ++ [yv]))) := .write h1 (fun _ z => nomatch z) (fun _ _ z => nomatch z)
        refine ⟨ws, h1, by rw [← h2.length]; exact hz, _, _, (((e2.trans e3).trans e4).trans e5).trans ew, rs5.put (m := .lst (acc ++ [y])) ew ⟨_, upd_same, RTs.ext ew _ (h2.append (.cons ry .nil))⟩, hI5 _ .of⟩
      | false => exact ⟨S4, acc, (e2.trans e3).trans e4, rs4, q4⟩
    · exact t.elim
theorem q_lc (hc : X.calm = true) (hN : X.N.Nodup) (hi : QI X tg iter w) (ok : BlkOk X.N X.env.scope scope own) (tb : TBind (zx X) (own.map (·.2)) g bt)
    (hg : ∀ (s : Shared) (H : Hp) (C : Addr) (cl : List (Str × Addr)) (fp : List Addr), PG (X.blk s H scope (compEnvC scope cl C X.env) fp) tg g) (ht : ∀ (s : Shared) (H : Hp) (C : Addr) (cl : List (Str × Addr)) (fp : List Addr), QTs (X.blk s H scope (compEnvC scope cl C X.env) fp) ifs tt)
    (he : ∀ (s : Shared) (H : Hp) (C : Addr) (cl : List (Str × Addr)) (fp : List Addr), QE (X.blk s H scope (compEnvC scope cl C X.env) fp) elt te) (hs : ∀ x, foldedSetIterable iter X.env x = pure x := by intro _; rfl) :
    QE X (.ListComp elt [⟨tg, iter, ifs, 0⟩] scope pos) (tlc w bt tt te (own.map (·.2))) :=
  qe_of (pe_lc hc hN hi ok hg ht he hs) fun σ H ρ S Q rs re q => lc_read tb σ H ρ S Q _ rs re q fun _ _ w => w
theorem s_setLc {i : Nat} {y : Str} {py : Pos} {spos : Pos} (hc : X.calm = true) (hN : X.N.Nodup) (hy : X.N[i]? = some y) (hyl : X.env.scope.names.lookup y = some .local)
    (hsw : swapsWith (.ListComp elt [⟨tg, iter, ifs, 0⟩] scope pos) (some (.Name y py)) spos.line X.env = pure true) (hi : QI X tg iter w) (ok : BlkOk X.N X.env.scope scope own) (tb : TBind (zx X) (own.map (·.2)) g bt)
    (hg : ∀ (s : Shared) (H : Hp) (C : Addr) (cl : List (Str × Addr)) (fp : List Addr), PG (X.blk s H scope (compEnvC scope cl C X.env) fp) tg g) (ht : ∀ (s : Shared) (H : Hp) (C : Addr) (cl : List (Str × Addr)) (fp : List Addr), QTs (X.blk s H scope (compEnvC scope cl C X.env) fp) ifs tt)
    (he : ∀ (s : Shared) (H : Hp) (C : Addr) (cl : List (Str × Addr)) (fp : List Addr), QE (X.blk s H scope (compEnvC scope cl C X.env) fp) elt te) (hs : ∀ x, foldedSetIterable iter X.env x = pure x := by intro _; rfl) :
    QS X (.Assign [.Name y py] (.ListComp elt [⟨tg, iter, ifs, 0⟩] scope pos) spos) (tsAsg (tlc w bt tt te (own.map (·.2))) (tgN i)) :=
  qs_of (ps_setLc hc hN hy hyl hsw hi ok hg ht he hs) fun σ H ρ S D rs re q => lc_read tb σ H ρ S _ _ rs re q fun v H' w => by
    obtain ⟨r, S', e, rs', rr, q'⟩ := w
    exact ⟨_, S', e, rs', (re.ext e).set rr i, q'⟩
end

/-! ### what is walked -/
section
variable {X : Cx} {tg l : Expr} {tl : TTE}
/-- a list or a tuple -/
def tiSeq (tl : TTE) : TTI := fun ρ S Q => tl ρ S fun x S1 => match x with
  | .tup xs => Q ⟨xs, fun _ => True⟩ S1
  | .adr a => (match lstAt S1 a with | some xs => Q ⟨xs, fun S => lstAt S a = some xs⟩ S1 | none => False)
  | _ => False
theorem fits_list {K : Zk} {H1 : Hp} {a : Addr} {xs : List T} : Fits K H1 (Itl K.K a) ⟨xs, fun S => lstAt S a = some xs⟩ where
  go := fun i S' H' x rs e live ei => by
    obtain ⟨vs, h1, h2⟩ := rs.list live
    obtain ⟨v, h3, h4⟩ := h2.get ei
    refine ⟨⟨vs, v, h1, h3⟩, fun w H'' y => ?_⟩
    obtain ⟨rfl, y⟩ := y
    have := y vs h1
    rw [h3] at this
    cases this
    exact ⟨.refl _, rs, h4⟩
  stop := fun i S' H' rs e live ei => by
    obtain ⟨vs, h1, h2⟩ := rs.list live
    refine ⟨vs, h1, ?_⟩
    rw [← h2.length]
    exact List.getElem?_eq_none_iff.mp ei
theorem fits_tup {K : Zk} {H1 : Hp} {a : Addr} {xs : List T} {vs : List V} (h1 : SqT K.K H1 a vs) (h2 : RTs K H1 xs vs) : Fits K H1 (Itt K.K a) ⟨xs, fun _ => True⟩ where
  go := fun i S' H' x rs e live ei => by
    have h2 := RTs.ext e _ h2
    have h1 := e.sqT h1
    obtain ⟨v, h3, h4⟩ := h2.get ei
    refine ⟨⟨vs, v, h1, h3⟩, fun w H'' y => ?_⟩
    obtain ⟨rfl, y⟩ := y
    have := y vs h1
    rw [h3] at this
    cases this
    exact ⟨.refl _, rs, h4⟩
  stop := fun i S' H' rs e live ei => by
    refine ⟨vs, e.sqT h1, ?_⟩
    rw [← h2.length]
    exact List.getElem?_eq_none_iff.mp ei
theorem i_seq (hl : QE X l tl) : QI X tg l (tiSeq tl) := by
  refine ⟨fun pins s σ H R I h => ?_⟩
  obtain ⟨ρ, S, Q', rs, re, q, m⟩ := h
  refine thn (hl.run pins s σ H _ I (LE.mk (R := WE (zx X) H _) rs re q fun r S' v H' e rs' rr q' => ⟨r, S', e, rs', rr, q'⟩)) fun v s1 ⟨x, H1, I1, r1, r, S1, e1, rs1, rr, q1⟩ => ?_
  dsimp only at q1
  split at q1
  · rename_i xs
    rw [rt_tup] at rr
    obtain ⟨a, vs, rfl, h1, h2⟩ := rr
    have P : PE X l (tC (.ref a)) → True := fun _ => trivial
    cases r1
    obtain ⟨its, rv, p, hz⟩ := I1.tuple h1.sqT
    refine wpAny_pyIter_tuple (show s1.heap.IsTuple a its.toArray from p) ?_
    refine ⟨s1.heap.objs.size, [s1.heap.objs.size], _, _, H1, rfl, I1.kept (t' := s1.toks) fun b o e => Heap.get?_push_of_some _ e, turn_tuple a _, ⟨_, Heap.get?_push_size _ rfl, rfl, rfl⟩, fun b hb => ?_, m _ _ _ _ e1 rs1 (fits_tup h1.sqT h2) q1⟩
    have e : b = s1.heap.objs.size := by simpa using hb
    subst e
    exact I1.fpOk (Nat.le_refl _) (I1.hok.fresh (Nat.le_refl _))
  · rename_i a
    rw [rt_adr] at rr
    subst rr
    split at q1
    · rename_i xs ex
      obtain ⟨vs, h1, h2⟩ := rs1.list ex
      cases r1
      obtain ⟨its, rv, p, hz⟩ := I1.list h1
      refine wpAny_pyIter_list p.isList ?_
      refine ⟨s1.heap.objs.size, [s1.heap.objs.size], _, _, H1, rfl, I1.kept (t' := s1.toks) fun b o e => Heap.get?_push_of_some _ e, turn_list _ _, ⟨_, Heap.get?_push_size _ rfl, rfl, rfl⟩, fun b hb => ?_, m _ _ _ _ e1 rs1 fits_list q1⟩
      have e : b = s1.heap.objs.size := by simpa using hb
      subst e
      exact I1.fpOk (Nat.le_refl _) (I1.hok.fresh (Nat.le_refl _))
    · exact q1.elim
  · exact q1.elim
/-- range(n), range(a, b) -/
def rngT (lo : Int) : Nat → List T
  | 0 => []
  | n + 1 => .int lo :: rngT (lo + 1) n
theorem rngT_len (lo : Int) (n : Nat) : (rngT lo n).length = n := by
  induction n generalizing lo with
  | zero => rfl
  | succ n ih => show (rngT (lo + 1) n).length + 1 = n + 1; rw [ih]
theorem rngT_get : ∀ (n : Nat) (lo : Int) (i : Nat), i < n → (rngT lo n)[i]? = some (.int (lo + i))
  | 0, _, _, h => absurd h (Nat.not_lt_zero _)
  | n + 1, lo, 0, _ => by simp [rngT]
  | n + 1, lo, i + 1, h => by
    show (rngT (lo + 1) n)[i]? = _
    rw [rngT_get n (lo + 1) i (by omega)]
    congr 2
    omega
theorem fits_rng {K : Zk} {H1 : Hp} {lo : Int} {n : Nat} : Fits K H1 (Itr lo n) ⟨rngT lo n, fun _ => True⟩ where
  go := fun i S' H' x rs e live ei => by
    have hlt : i < n := by
      have := (List.getElem?_eq_some_iff.mp ei).1
      rw [rngT_len] at this; exact this
    refine ⟨hlt, fun w H'' y => ?_⟩
    obtain ⟨rfl, rfl⟩ := y
    have ei : (rngT lo n)[i]? = some x := ei
    rw [rngT_get n lo i hlt] at ei
    cases ei
    exact ⟨.refl _, rs, by rw [rt_int]⟩
  stop := fun i S' H' rs e live ei => by
    have := List.getElem?_eq_none_iff.mp ei
    have h : (rngT lo n).length ≤ i := this
    rw [rngT_len] at h
    exact h
def tiRng1 (ta : TTA) : TTI := fun ρ S Q => ta ρ S fun vs S1 => match vs with
  | [.int j] => -(2 ^ 62) ≤ j ∧ j < 2 ^ 62 ∧ Q ⟨rngT 0 j.toNat, fun _ => True⟩ S1
  | _ => False
def tiRng2 (ta : TTA) : TTI := fun ρ S Q => ta ρ S fun vs S1 => match vs with
  | [.int i, .int j] => (-(2 ^ 62) ≤ i ∧ i < 2 ^ 62 ∧ -(2 ^ 62) ≤ j ∧ j < 2 ^ 62) ∧ Q ⟨rngT i (j - i).toNat, fun _ => True⟩ S1
  | _ => False
theorem RTs.one' {K : Zk} {H : Hp} {x : T} {vs : List V} (h : RTs K H [x] vs) : ∃ v, vs = [v] ∧ RT K H x v := by
  rw [rts_cons] at h
  obtain ⟨v, r, rfl, h1, h2⟩ := h
  rw [rts_nil] at h2
  subst h2
  exact ⟨v, rfl, h1⟩
theorem RTs.two' {K : Zk} {H : Hp} {x y : T} {vs : List V} (h : RTs K H [x, y] vs) : ∃ v w, vs = [v, w] ∧ RT K H x v ∧ RT K H y w := by
  rw [rts_cons] at h
  obtain ⟨v, r, rfl, h1, h2⟩ := h
  obtain ⟨w, rfl, h3⟩ := h2.one'
  exact ⟨v, w, rfl, h1, h3⟩
theorem i_range1 {a : Expr} {ta : TTA} {p pos : Pos} (hg : Gl X "range") (hm : X.mg "range" = none) (ha : QA X [a] ta) (hs : starEach [a] X.env = [(false, eval a X.env)] := by rfl) : QI X tg (.Call (.Name "range" p) [a] [] pos) (tiRng1 ta) :=
  qi_of (pi_range1 hg hm ha hs) fun σ H ρ S Q rs re q => LA.mk rs re q fun ts S1 vs H1 e1 rs1 rr q1 => by
    split at q1
    · obtain ⟨v, rfl, h1⟩ := rr.one'
      rw [rt_int] at h1
      subst h1
      exact ⟨_, rfl, q1.1, q1.2.1, _, S1, e1, rs1, fits_rng, q1.2.2⟩
    · exact q1.elim
theorem i_range2 {a b : Expr} {ta : TTA} {p pos : Pos} (hg : Gl X "range") (hm : X.mg "range" = none) (ha : QA X [a, b] ta) (hs : starEach [a, b] X.env = [(false, eval a X.env), (false, eval b X.env)] := by rfl) (hs2 : starEach [b] X.env = [(false, eval b X.env)] := by rfl) :
    QI X tg (.Call (.Name "range" p) [a, b] [] pos) (tiRng2 ta) :=
  qi_of (pi_range2 hg hm ha hs hs2) fun σ H ρ S Q rs re q => LA.mk rs re q fun ts S1 vs H1 e1 rs1 rr q1 => by
    split at q1
    · obtain ⟨v, w, rfl, h1, h2⟩ := rr.two'
      rw [rt_int] at h1 h2
      subst h1; subst h2
      exact ⟨_, _, rfl, q1.1, _, S1, e1, rs1, fits_rng, q1.2⟩
    · exact q1.elim
end
end TL
set_option Elab.async false
set_option linter.all false
set_option maxRecDepth 100000
set_option maxHeartbeats 1000000
/-! TLrev: list(reversed(a list)). -/
namespace TL
open PySem PySem.Spec PyProof.Rows L2
section
variable {prog : Program} {w : World} {A : Around} {E : Value → Shared → Prop} {s : Shared}
theorem extend_rev {R : Result → Shared → Prop} {it l : Addr} {items : Array Value} (hh : A.handled = none) (hit : s.heap.IsRevIter it l ((items.size : Int) - 1)) (hl : s.heap.IsList l items) (hne : l ≠ it) (hn : items.size ≤ sizeLine)
    (S : Addr) (hSi : S ≠ it) (hSl : S ≠ l) (res : Value) (c₀ : Nat) (hS : s.heap.get? S = some { cls := .type "list", data := .seq #[] c₀ })
    (hR : ∀ h' tk acc' c', (∀ b o, b ≠ S → b ≠ it → s.heap.get? b = some o → h'.get? b = some o) → h'.get? S = some { cls := .type "list", dict := none, data := .seq acc' c', slots := #[] } →
      ItemsOf (fun i v => items[items.size - 1 - i]? = some v) acc' items.size → R (.ok (.ret res)) { s with heap := h', toks := tk }) :
    wpAny (model prog w) A.in1 (Builtin.List.listExtendWith (.ref S) (.ref it) res)
      (fun fin s' => match fin with | .done f => R (.ok f) s' | .again c' => c'.quiet = true ∧ codeAny (model prog w) A c' R s') (fun e s' => R (.error e) s') s := by
  have W := (Walks.listRev (prog := prog) (w := w) (A := A.in1) hh it l hne items).toS
  have hSf : S ∉ [it, l] := by simp only [List.mem_cons, List.not_mem_nil, or_false, not_or]; exact ⟨hSi, hSl⟩
  have hT : s.TypeIs (.ref it) "list_reverseiterator" := hit.typeIs
  have h1 : Builtin.List.listSameRef (.ref S) (.ref it) = false := by simp [Builtin.List.listSameRef, hSi]
  unfold Builtin.List.listExtendWith
  refine wpAny_bind (wpAny_typeOf hT ?_)
  rw [if_neg (by rw [h1]; decide)]
  refine wpAny_bind (wpAny_pyIter_revIter hit ?_)
  refine wpAny_bind (wpAny_holding ?_)
  unfold Builtin.List.listLengthHint
  refine wpAny_bind (wpAny_specialOf hT RT.nolen_lri ?_)
  show wpAny _ A.in1 (specialOf (Value.ref it) (Str.ofString "__length_hint__") >>= _) _ _ _
  refine wpAny_bind (wpAny_specialOf hT RT.hint_lri ?_)
  generalize hid : ("list_reverseiterator.__length_hint__" : String) = id0
  wp_delta
  rw [show splitId id0 = some ("list_reverseiterator", "__length_hint__") from by subst hid; decide +kernel]
  subst hid
  refine wpAny_bind (wpAny_isInstance (b := true) hT (by rw [isSubtype_type]; kernel_rfl) ?_)
  refine wpAny_pure ?_
  rw [if_neg (by decide)]
  have e0 : ((items.size : Nat) : Int) - 1 - ((0 : Nat) : Int) = (items.size : Int) - 1 := by omega
  refine wpAny_pure ⟨plainId_quiet F.plain_extend_loop _, codeAny_extend_loopS W hn S hSf res items.size 0 _ _ c₀ rfl (Nat.zero_le _) ⟨Nat.zero_le _, by rw [e0]; exact hit, hl⟩ hS (ItemsOf.nil _) fun s' acc' c' hm hS' hacc => ?_⟩
  rw [Moved.eq_with hm]
  refine hR s'.heap s'.toks acc' c' (fun b o hb hbi e => hm.heap b o (fun hmem => ?_) e) hS' hacc
  rcases List.mem_cons.mp hmem with e' | hmem
  · exact hb e'
  · exact hbi (List.mem_singleton.mp hmem)
theorem call_list_rev {Q : Value → Shared → Prop} {it l : Addr} {items : Array Value} (hh : A.handled = none) (hit : s.heap.IsRevIter it l ((items.size : Int) - 1)) (hl : s.heap.IsList l items) (hne : l ≠ it) (hn : items.size ≤ sizeLine)
    (hQ : ∀ h' tk acc' c', (∀ b o, b ≠ it → s.heap.get? b = some o → h'.get? b = some o) → h'.get? s.heap.objs.size = some { cls := .type "list", dict := none, data := .seq acc' c', slots := #[] } →
      ItemsOf (fun i v => items[items.size - 1 - i]? = some v) acc' items.size → Q (.ref s.heap.objs.size) { s with heap := h', toks := tk }) :
    wpAny (model prog w) A (call (.type "list") [.ref it]) Q E s := by
  refine callType_codes (Q₁ := fun obj s₁ => obj = .ref s.heap.objs.size ∧ s₁ = { s with heap := s.heap.push { cls := .type "list", data := .seq #[] } }) PySem.F.called_list (PySem.F.typeCall_list_1 _) PySem.F.entry_list_init
    (code_list_new _ ⟨rfl, rfl⟩) fun obj s₁ h₁ => ?_
  obtain ⟨rfl, rfl⟩ := h₁
  have hS : (s.heap.push { cls := .type "list", data := .seq #[] }).get? s.heap.objs.size = some { cls := .type "list", data := .seq #[] } := Heap.get?_push_size _ rfl
  obtain ⟨oi, hoi, _⟩ := id hit
  obtain ⟨ol, hol, _⟩ := id hl
  have hSi : s.heap.objs.size ≠ it := Nat.ne_of_gt (Heap.lt_size hoi)
  have hSl : s.heap.objs.size ≠ l := Nat.ne_of_gt (Heap.lt_size hol)
  have hit1 : (s.heap.push { cls := .type "list", data := .seq #[] }).IsRevIter it l ((items.size : Int) - 1) := hit.at fun o e => Heap.get?_push_of_some _ e
  have hl1 : (s.heap.push { cls := .type "list", data := .seq #[] }).IsList l items := hl.push _
  refine ⟨⟨_, hS, rfl⟩, PySem.F.args_list_init_2 _ _, ?_⟩
  generalize hh0 : s.heap.push { cls := .type "list", data := .seq #[] } = h0 at *
  show wpAny _ _ (do let old ← Builtin.List.listItems (.ref s.heap.objs.size); Builtin.List.listUpdate (.ref s.heap.objs.size) (fun _ => #[]); letGo old.toList.reverse; Builtin.List.listExtendWith (.ref s.heap.objs.size) (.ref it) .none) _ _ _
  refine wpAny_bind ?_
  unfold Builtin.List.listItems
  refine wpAny_bind (wpAny_seqItems hS rfl (wpAny_pure ?_))
  show wpAny _ _ (updateSeq s.heap.objs.size (fun _ => #[]) >>= fun _ => letGo (#[] : Array Value).toList.reverse >>= fun _ => Builtin.List.listExtendWith (.ref s.heap.objs.size) (.ref it) .none) _ _ _
  refine wpAny_bind (wpAny_updateSeq hS rfl ?_)
  have hS₂ := Heap.get?_update_self (Obj.mapSeq (fun _ => (#[] : Array Value))) hS rfl
  have oth : ∀ b o, b ≠ s.heap.objs.size → h0.get? b = some o → (h0.update s.heap.objs.size (Obj.mapSeq (fun _ => (#[] : Array Value)))).get? b = some o :=
    fun b o hb e => (Heap.get?_update_other _ _ (Ne.symm hb)).trans e
  refine wpAny_bind (wpAny_letGo ?_)
  refine extend_rev (A := A.in1) hh (hit1.at fun o e => oth it o hSi.symm e) (by
    obtain ⟨o, a1, a2⟩ := hl1
    exact ⟨o, oth l o hSl.symm a1, a2⟩) hne hn s.heap.objs.size hSi hSl .none _ hS₂ fun h' tk acc' c' hk hS' hacc => ?_
  refine ⟨rfl, hQ h' tk acc' c' (fun b o hb e => ?_) hS' hacc⟩
  have hlt := Nat.ne_of_lt (Heap.lt_size e)
  refine hk b o hlt hb (oth b o hlt ?_)
  rw [← hh0]
  exact Heap.get?_push_of_some _ e
end
section
variable {X : Cx}
def tLstRev (K : PySem.W.Frag) (te : TE) : TE := fun σ H Q => te σ H fun v H1 => ∃ (a : Addr) (xs : List V), v = .ref a ∧ SqL K H1 a xs ∧ ∀ q, H1 q = none → Q (.ref q) (upd H1 q (.lst xs.reverse))
theorem pe_lstRev {e : Expr} {te : TE} {p p2 pos pos2 : Pos} (hc : X.calm = true) (hg : Gl X "list") (hm : X.mg "list" = none) (hg2 : Gl X "reversed") (hm2 : X.mg "reversed" = none) (he : PE X e te)
    (hs : starEach [e] X.env = (false, eval e X.env) :: starEach [] X.env := by rfl)
    (hs2 : starEach [.Call (.Name "reversed" p2) [e] [] pos2] X.env = (false, eval (.Call (.Name "reversed" p2) [e] [] pos2) X.env) :: starEach [] X.env := by rfl) :
    PE X (.Call (.Name "list" p) [.Call (.Name "reversed" p2) [e] [] pos2] [] pos) (tLstRev X.K te) := by
  refine ⟨fun pins s σ H Q I h => ?_⟩
  refine Call_ (ld_blt I hg hm boot_list (PyProof.Rows.callWith_type1 (args_cons (Call_ (ld_blt I hg2 hm2 PyProof.Rows.boot_reversed (PyProof.Rows.callWith_type1 (args_cons (thn (he.run pins s σ H _ I h) fun u s1 ⟨v, H1, I1, r1, q1⟩ => args_nil ?_) hs) hs rfl))) hs2) hs2 rfl))
  obtain ⟨a, xs, ev, hq, q⟩ := q1
  subst ev
  obtain rfl : u = Value.ref a := r1
  obtain ⟨its, rv, p', hz⟩ := I1.list hq
  refine call_reversed_list p'.isList (args_nil ?_)
  have k0 : ∀ b o, s1.heap.get? b = some o → (s1.heap.push (revObj a ((its.toArray.size : Int) - 1))).get? b = some o := fun b o e => Heap.get?_push_of_some _ e
  have I2 : Inv X pins σ H1 { s1 with heap := s1.heap.push (revObj a ((its.toArray.size : Int) - 1)) } := I1.kept (t' := s1.toks) k0
  obtain ⟨f0, f1, f2, f3, f4, f5⟩ := I1.fpOk (H' := H1) (b := s1.heap.objs.size) (Nat.le_refl _) (I1.hok.fresh (Nat.le_refl _))
  have hl := p'.isList
  obtain ⟨ol, hol, _⟩ := id hl
  have hne : a ≠ s1.heap.objs.size := Nat.ne_of_lt (Heap.lt_size hol)
  have hn : its.toArray.size ≤ sizeLine := by rw [List.size_toArray, ← rv.length]; exact hz
  refine call_list_rev (s := { s1 with heap := s1.heap.push (revObj a ((its.toArray.size : Int) - 1)) }) (I1.ok.hd hc) ⟨_, Heap.get?_push_size _ rfl, rfl, rfl⟩ (hl.push _) hne hn fun h' tk acc c hk hS hi => ?_
  have I3 : Inv X pins σ H1 { s1 with heap := h', toks := tk } := I2.turned (t' := tk) (fun b o hb e => hk b o hb e) f0 f1 f3 f4 f5
  have hfr : H1 (s1.heap.push (revObj a ((its.toArray.size : Int) - 1))).objs.size = none := I2.hok.fresh (Nat.le_refl _)
  refine ⟨.ref _, upd H1 (s1.heap.push (revObj a ((its.toArray.size : Int) - 1))).objs.size (.lst xs.reverse), ?_, rfl, q _ hfr⟩
  have hv := RT.vals_rev rv hi
  have obj : ObjOk X.prog X.w (upd H1 (s1.heap.push (revObj a ((its.toArray.size : Int) - 1))).objs.size (.lst xs.reverse)) h' (s1.heap.push (revObj a ((its.toArray.size : Int) - 1))).objs.size (.lst xs.reverse) :=
    ⟨by rw [List.length_reverse]; exact hz, acc.toList, c, hv, by rw [Array.toArray_toList]; exact hS⟩
  refine I1.turnedNew (t' := tk) (ch := [s1.heap.objs.size]) (fun b o hb e => hk b o (fun z => hb (by rw [z]; exact List.mem_singleton.mpr rfl)) (k0 b o e)) (fun b hb => ?_) ?_ obj
  · rw [List.mem_singleton.mp hb]
    exact ⟨f0, f1, f2, f3, f4, f5⟩
  · show _ ≤ (s1.heap.objs.push _).size
    rw [Array.size_push]
    exact Nat.le_succ _
end
end TL
set_option Elab.async false
set_option linter.all false
set_option maxRecDepth 100000
set_option maxHeartbeats 1000000
/-! TL6: calls of the text's own functions, with no guard under way; the end. -/
namespace TL
open PySem PySem.Spec PyProof.Rows L2

abbrev TSp := List T → Sto → (T → Sto → Prop) → Prop
def liftSp (K : Zk) (sp : TSp) (vs : List V) (H : Hp) (Q : VK) : Prop := ∃ ts S Q', RelS K S H ∧ RTs K H ts vs ∧ sp ts S Q' ∧ ∀ v H', WE K H Q' v H' → Q v H'
/-- what a function of the text answers: by its name, with room k -/
structure Cal (P : Program) (w : World) (K : PySem.W.Frag) (mg : Str → Option Value) (base : Heap) (k : Nat) (x : Str) (n : Nat) (sp : TSp) : Prop where
  ex : ∃ (f : Addr) (fd : FuncData) (ps : List Str), ps.length = n ∧ mg x = some (.ref f) ∧ PySem.W.keepIn K (.ref f) = true ∧ Binds K fd ps [] ∧
    ∀ (A : Around) (outer : List Env) (s : Shared) (H : Hp) (args : Args) (us : List Value) (vs : List V) (Q : VK), Room k A → A.guards = some [] → Env0 P w K mg base A outer s H → BindsTo s fd args (ps.zip us) → Vals vs us → vs.length = n → liftSp ⟨P, w, K⟩ sp vs H Q →
      codeAny (model P w) A (.call (.ref f) args) (CR CX0 outer P w H s Q (fun _ _ _ => False)) s
section
variable {P : Program} {w : World} {K : PySem.W.Frag} {mg : Str → Option Value} {base : Heap} {j k n : Nat} {x : Str} {sp sp' : TSp}
theorem Cal.mono (C : Cal P w K mg base j x n sp) (h : j ≤ k) : Cal P w K mg base k x n sp := by
  obtain ⟨f, fd, ps, h1, h2, h3, h4, h5⟩ := C.ex
  exact ⟨f, fd, ps, h1, h2, h3, h4, fun A outer s H args us vs Q hr => h5 A outer s H args us vs Q (hr.mono h)⟩
theorem Cal.imp (C : Cal P w K mg base k x n sp) (h : ∀ ts S Q, sp' ts S Q → sp ts S Q) : Cal P w K mg base k x n sp' := by
  obtain ⟨f, fd, ps, h1, h2, h3, h4, h5⟩ := C.ex
  exact ⟨f, fd, ps, h1, h2, h3, h4, fun A outer s H args us vs Q hr hg e0 hb hv hl ⟨ts, S, Q', a, b, c, d⟩ => h5 A outer s H args us vs Q hr hg e0 hb hv hl ⟨ts, S, Q', a, b, h _ _ _ c, d⟩⟩
end
def tcall (n : Nat) (sp : TSp) (t : TTA) : TTE := fun ρ S Q => t ρ S fun vs S1 => vs.length = n ∧ sp vs S1 Q
section
variable {X : Cx} {x : Str} {p pos : Pos} {e : Expr} {es : List Expr} {t : TTA} {n k : Nat} {sp : TSp}
theorem q_call (C : Cal X.prog X.w X.K X.mg X.base k x n sp) (hr : Room k X.A) (hgd : X.A.guards = some []) (hg : Gl X x) (ha : QA X (e :: es) t)
    (hdb : (x == ("__debug__" : Str)) = false := by decide) (he : starEach (e :: es) X.env = (false, eval e X.env) :: starEach es X.env := by rfl) (hpl : (backTo pos (starEach es X.env)).any (·.1) = false := by rfl) :
    QE X (.Call (.Name x p) (e :: es) [] pos) (tcall n sp t) := by
  obtain ⟨f, fd, ps, h1, hm, hk, hb, h5⟩ := C.ex
  refine ⟨fun pins s σ H R I h => ?_⟩
  obtain ⟨ρ, S, Q', rs, re, q, m⟩ := h
  refine wpAny_Call_Name_kw (ld_glob I hg hm ?_ hdb)
  refine PySem.W.callWith_K (h₀ := X.base) I.ok.mod.kin hk (thn (ha.run pos pins s σ H _ I (LA.mk (R := WA (zx X) H _) rs re q fun r S' v H' e1 r1 r2 r3 => ⟨r, S', e1, r1, r2, r3⟩)) fun us s1 ⟨vs, H1, I1, r, ⟨ts, S1, e1, rs1, rr, hl, q1⟩⟩ => ⟨I1.kIn, ?_⟩) he hpl
  have hln : us.length = ps.length := by rw [← r.length, ← rr.length, hl, h1]
  have hbb := hb s1 us I1.kIn (by rw [List.append_nil]; exact hln)
  rw [List.append_nil] at hbb
  refine wpAny_call (codeAny_mono (h5 X.A X.stack s1 H1 ⟨us, []⟩ us vs R hr hgd I1.env0 hbb r (by rw [← rr.length]; exact hl) ⟨ts, S1, Q', rs1, rr, q1, fun v H' w => m v H' (w.ext e1)⟩) fun r s' hq => ?_)
  cases r with
  | error e => exact False.elim hq
  | ok fl =>
    cases fl with
    | ret u => exact I1.after hq
    | next => exact False.elim hq
    | brk => exact False.elim hq
    | cont => exact False.elim hq
end

/-! ### a def -/
def endT (Q : T → Sto → Prop) : EndsT := { nx := fun _ S => Q .non S, rt := Q, bk := fun _ _ => False, ct := fun _ _ => False }
section
variable {P : Program} {w : World} {K : PySem.W.Frag} {mg : Str → Option Value} {base : Heap}
theorem cal_def {x : Str} {st : Stmt} {f : Addr} {fd : FuncData} {N ps : List Str} {k : Nat} {sp : TSp} {t : TTS} (F : Fun K x x st f fd) (hm : mg x = some (.ref f)) (S : FnScope N ps (defScope st))
    (hb : Binds K fd ps [])
    (hbody : ∀ (cdv : Value) (A : Around) (outer : List Env) (s : Shared) (H : Hp) (E : XK), Room k (A.deeper (envOfC x (defScope st) s.heap.objs.size f cdv)) → (A.deeper (envOfC x (defScope st) s.heap.objs.size f cdv)).guards = some [] →
      QSs (cxOf CX0 P w K mg base N x (defScope st) f cdv A outer s H E).nox (defBody st) t)
    (vc : ∀ ts S Q, ts.length = ps.length → sp ts S Q → t (endT Q) (startT N.length ts) S) : Cal P w K mg base (k + 1) x ps.length sp := by
  obtain ⟨oc, od, kV, doc, pm, an, cdv, ct, osl, rfl, lk, hcd⟩ := F.ex
  refine ⟨f, _, ps, rfl, hm, F.kp, hb, fun A outer s H args us vs Q hr hgd e0 hb r hl hsp => ?_⟩
  obtain ⟨ts, St, Q', rs, rr, q, m⟩ := hsp
  have KX : K.In s.heap := e0.mod.kin.keeps fun b o e => (e0.bs b o e).1
  have lim : s.heap.NoLimit := e0.mod.nolimit.keeps fun b o e => (e0.bs b o e).1
  have hkind : ∀ y ∈ ps.zip us, (defScope st).names.lookup y.1 = some .local ∨ ((defScope st).names.lookup y.1 = some .cell ∧ ((cellsFrom (s.heap.objs.size + 1) (defScope st).names []).lookup y.1).isSome = true) := fun ⟨n, v⟩ hy => by
    rcases S.par n (List.of_mem_zip hy).1 with q | q
    · exact .inl q
    · exact .inr ⟨q, PySem.W.cellsFrom_some _ _ _ (.inl q)⟩
  refine codeAny_call_function hr.depth (KX _ _ lk) rfl S.co S.gen rfl (PySem.W.codeRec_of KX hcd) (hb _ _ _ _ ?_)
  refine wpAny_newFunctionEnv_cells S.kind hkind fun env he s1 xc => ?_
  subst he
  refine ⟨lim.keeps xc.toInCall.keep, codeAny_func ?_⟩
  have ht := hbody cdv A outer s H (fun _ _ _ => False) (hr.deeper _) hgd
  have hq : LS ⟨P, w, K⟩ t { nx := fun _ H' => Q .non H', rt := Q } (start N vs) H := by
    refine ⟨startT N.length ts, St, endT Q', rs, .start rr, vc ts St Q' (by rw [rr.length, hl]) q, fun σ' H' w => ?_, m, fun σ' H' w => ?_, fun σ' H' w => ?_⟩
    · obtain ⟨ρ', S', a, b, c, d⟩ := w
      exact m _ _ ⟨.non, S', a, b, by rw [rt_non], d⟩
    · obtain ⟨_, _, _, _, _, d⟩ := w; exact d.elim
    · obtain ⟨_, _, _, _, _, d⟩ := w; exact d.elim
  have I : Inv (cxOf CX0 P w K mg base N x (defScope st) f cdv A outer s H fun _ _ _ => False) [] (start N vs) H s1 := inv_start S hr.hd e0 hl r xc
  refine wpAny_mono (ht.nox.run [] s1 (start N vs) H _ I hq) (fun fl s' hs => ?_) fun e s' hs => hs
  have fin : ∀ {σ' : L2.St} {H' : Hp} {v : V} {u : Value}, Inv (cxOf CX0 P w K mg base N x (defScope st) f cdv A outer s H fun _ _ _ => False) [] σ' H' s' → RelV v u → Q v H' → CE outer P w H s Q u s' :=
    fun {σ' H' v u} J rv q => ⟨v, H', J.os, J.bare, J.base, J.hok, rv, q⟩
  cases fl with
  | ret u =>
    obtain ⟨v, σ', H', J, rv, q⟩ := hs
    exact fin J rv q
  | next =>
    obtain ⟨σ', H', J, q⟩ := hs
    exact fin (v := V.non) (u := Value.none) J rfl q
  | brk =>
    obtain ⟨_, _, _, q⟩ := hs
    exact False.elim q
  | cont =>
    obtain ⟨_, _, _, q⟩ := hs
    exact False.elim q
end

/-! ### the end: a law's promise at the heap behind the top -/
section
/-- nothing is tracked but the script -/
theorem law_endG {P : Program} {w : World} {K : PySem.W.Frag} {mg mb : Str → Option Value} {k : Nat} {fa a : Addr} {sp : TSp} {x : Str} {s₁ : Shared} {vs : List Value} {ns : List Int}
    (KX : K.In s₁.heap) (hns : s₁.heap.Ns mainGlobals mg) (hb : s₁.heap.Ns builtinsNs mb) (hbb : ∀ x : Str, x ≠ "__name__" → mb x = bootBuiltins x) (hlim : s₁.heap.NoLimit) (hg : s₁.gens = #[])
    (ha : s₁.heap.get? a = some { cls := .type "list", data := .seq vs.toArray }) (hi : IntsAre vs ns) (hl : ns.length ≤ sizeLine) (hr : Room k callerA)
    (hmx : mg x = some (.ref fa)) (F : ∀ base : Heap, K.In base → base.Ns mainGlobals mg → Cal P w K mg base k x 1 sp)
    (hsp : sp [.fl (ns.map T.int)] (fun _ => none) (fun v _ => v = .bl true)) :
    codeAny (model P w) callerA (.call (.ref fa) ⟨[.ref a], []⟩) (fun r s' => r = .ok (.ret (.bool true)) ∧ OldK s₁.heap s'.heap ∧ s'.os = s₁.os ∧ AllBare s'.gens) s₁ := by
  have rv := vals_ints hi
  have lenV := hi.length
  have core : ∀ H : Hp, Only H → SqF K H a (ns.map V.int) → HOk P w H s₁.heap → (∀ b, H b ≠ none → b = a) → (H a ≠ none → K.lookup a = none) →
      codeAny (model P w) callerA (.call (.ref fa) ⟨[.ref a], []⟩) (fun r s' => r = .ok (.ret (.bool true)) ∧ OldK s₁.heap s'.heap ∧ s'.os = s₁.os ∧ AllBare s'.gens) s₁ := by
    intro H hO hS hok hA hK
    have base_of : ∀ {b : Addr} {o : Obj}, s₁.heap.get? b = some o → H b = none → (hidT s₁.heap H).get? b = some o := fun e n => hidT_get e n
    have noA : ∀ {b : Addr} {o : Obj} {es : Array DictEntry} {ep : Nat}, s₁.heap.get? b = some o → o.data = .dict es ep → H b = none := fun {b o es ep} e d => by
      cases q : H b with
      | none => rfl
      | some u =>
        have e' : b = a := hA b (by rw [q]; simp)
        subst e'
        rw [ha] at e; cases e
        have d' : Data.seq vs.toArray _ = Data.dict es ep := d
        cases d'
    have nsK : ∀ {b : Addr} {m : Str → Option Value}, s₁.heap.Ns b m → (hidT s₁.heap H).Ns b m := fun {b m} ⟨o, es, ep, e, d, r⟩ => ⟨o, es, ep, base_of e (noA e d), d, r⟩
    have hKb : K.In (hidT s₁.heap H) := fun b o e => base_of (KX b o e) (by
      cases q : H b with
      | none => rfl
      | some u =>
        have e' : b = a := hA b (by rw [q]; simp)
        subst e'
        rw [hK (by rw [q]; simp)] at e; cases e)
    have hM : Mod K mg (hidT s₁.heap H) := ⟨hKb, nsK hns, ⟨mb, nsK hb, hbb⟩, let ⟨mc, h1, h2⟩ := hlim; ⟨mc, nsK h1, h2⟩⟩
    have e0 : Env0 P w K mg (hidT s₁.heap H) callerA [] s₁ H := ⟨rfl, hM, fun b o e => of_hidT e, Nat.le_of_eq (hidT_size _ _), trivial, fun b hb => absurd (show b ∈ ([] : List Addr) from hb) (by simp), hok, .of_eq hg⟩
    obtain ⟨f, fd, ps, hps, hmf, hkp, hbd, hrun⟩ := (F _ hKb (nsK hns)).ex
    have ef : f = fa := by rw [hmx] at hmf; cases hmf; rfl
    subst ef
    have hbb := hbd s₁ [.ref a] KX (by rw [hps]; rfl)
    rw [List.append_nil] at hbb
    refine codeAny_mono (hrun callerA [] s₁ H ⟨[.ref a], []⟩ [.ref a] [.ref a] (fun v _ => v = .bl true) hr rfl e0 hbb (.cons rfl .nil) rfl ⟨[.fl (ns.map T.int)], fun _ => none, fun v _ => v = .bl true, fun b o e => (by cases e), RTs.cons (by rw [rt_fl]; exact ⟨a, _, rfl, hS, RTs.of_ints⟩) RTs.nil, hsp, fun v H' w => ?_⟩) fun r s' h => ?_
    · obtain ⟨r, S', _, _, rr, q⟩ := w
      subst q
      rw [rt_bl] at rr
      exact rr
    · cases r with
      | error e => exact False.elim h
      | ok fl =>
        cases fl with
        | next => exact False.elim h
        | brk => exact False.elim h
        | cont => exact False.elim h
        | ret u =>
          obtain ⟨v, H', os, bare, un, hok', r', q⟩ := h
          have q' : v = .bl true := q
          subst q'
          obtain rfl : u = Value.bool true := r'
          refine ⟨rfl, OldK.of_keep fun b o e => ?_, os, bare⟩
          cases q : H b with
          | none => exact un.keep b o e q (by intro z; exact absurd (show b ∈ ([] : List Addr) from z) (by simp)) (by simp)
          | some u =>
            rcases hO b with z | ⟨ob, xs, z⟩
            · rw [q] at z; cases z
            · have z2 := un.frzs b ob _ z
              obtain ⟨e1, _⟩ := hok b _ z
              obtain ⟨e2, _⟩ := hok' b _ z2
              rw [e] at e1; cases e1
              exact e2
  cases hk : K.lookup a with
  | some o =>
    have e := KX a o hk
    rw [ha] at e
    cases e
    exact core (fun _ => none) (fun _ => .inl rfl) (.inr ⟨_, vs.toArray, _, hk, rfl, rfl, rfl, by rw [List.size_toArray, lenV]; exact hl, by simpa using rv⟩) (fun b u z => by have z' : (none : Option HO) = some u := z; cases z') (fun b z => absurd rfl z) fun z => absurd rfl z
  | none =>
    refine core (fun b => if b = a then some (.frz { cls := .type "list", data := .seq vs.toArray } (.lst (ns.map V.int))) else none) (fun b => ?_) (.inl ⟨{ cls := .type "list", data := .seq vs.toArray }, if_pos rfl⟩) (fun b u z => ?_) (fun b z => ?_) fun _ => hk
    · by_cases hb : b = a
      · exact .inr ⟨_, _, if_pos hb⟩
      · exact .inl (if_neg hb)
    · by_cases hb : b = a
      · have z' := (if_pos hb).symm.trans z
        cases z'
        subst hb
        exact ⟨ha, by rw [List.length_map]; exact hl, vs, _, rv, ha⟩
      · have z' := (if_neg hb).symm.trans z
        cases z'
    · by_cases hb : b = a
      · exact hb
      · exact absurd (if_neg hb) z
/-- a law, over a head by facts -/
theorem walk_G {l : PySem.W.OpenLaw} {n k : Nat} {q : Program} {loose : List Str} {XP : (Str → Option Value) → Heap → Prop} {YP : World → Heap → Prop} {d : DefRec} {x : Str}
    (hn : l.most = some n) (hn2 : n ≤ sizeLine) (hdf : d.params.defaults = []) (hr : Room k callerA)
    (F : ∀ (w : World) (mg : Str → Option Value) (fa : Addr) (h : Heap), YP w h → h.Ns mainGlobals mg → mg d.name = some (.ref fa) →
      ∃ (K : PySem.W.Frag) (sp : TSp), K.In h ∧ mg x = some (.ref fa) ∧ (∀ ns : List Int, ns.length ≤ n → sp [.fl (ns.map T.int)] (fun _ => none) (fun v _ => v = .bl true)) ∧
        ∀ base : Heap, K.In base → base.Ns mainGlobals mg → Cal l.prog w K mg base k x 1 sp) :
    PySem.W.WalkO q loose XP YP l.row.toRowW d [] (fun f vs => PySem.call f vs) := by
  refine Att.attach_call hn hdf fun w s₀ s₁ mg mb fa o pm cd doc a vs ns G Y ho hd hcd hmg hobj hints hlen hg => ?_
  obtain ⟨K, sp, KX, hx, hsp, hF⟩ := F w mg fa _ Y G.T.g hmg
  exact law_endG KX G.T.g G.T.b G.T.builtins G.T.nolimit hg hobj hints (Nat.le_trans hlen hn2) hr hx hF (hsp ns hlen)
end
end TL
set_option Elab.async false
set_option linter.all false
set_option maxRecDepth 100000
set_option maxHeartbeats 1000000
/-! TLzip: zip of two things, each a list or a tuple. -/
namespace TL
open PySem PySem.Spec PyProof.Rows L2

def SqK (t : Bool) (K : PySem.W.Frag) (H : Hp) (a : Addr) (xs : List V) : Prop := match t with | true => SqT K H a xs | false => SqL K H a xs
def IsQ (t : Bool) (h : Heap) (a : Addr) (its : Array Value) : Prop := match t with | true => h.IsTuple a its | false => h.IsList a its
def IsQI (t : Bool) (h : Heap) (it a : Addr) (i : Nat) : Prop := match t with | true => h.IsTupleIter it a i | false => h.IsListIter it a i
section
variable {X : Cx} {pins : List (Addr × Obj)} {σ : L2.St} {H : Hp} {s : Shared}
theorem sqk_at (I : Inv X pins σ H s) {t : Bool} {a : Addr} {xs : List V} (h : SqK t X.K H a xs) : ∃ its : List Value, Vals xs its ∧ IsQ t s.heap a its.toArray ∧ a < s.heap.objs.size := by
  cases t with
  | true =>
    obtain ⟨its, r, p, _⟩ := I.tuple h
    obtain ⟨o, ho, _⟩ := id p
    exact ⟨its, r, p, Heap.lt_size ho⟩
  | false =>
    obtain ⟨its, r, p, _⟩ := I.list h
    exact ⟨its, r, p.isList, p.lt⟩
theorem sqk_inj (I : Inv X pins σ H s) {t : Bool} {a : Addr} {xs ys : List V} (h : SqK t X.K H a xs) (h' : SqK t X.K H a ys) : xs = ys := by
  cases t with
  | true => exact I.tuple_inj h h'
  | false => exact I.list_inj h h'
end
theorem isq_there {t : Bool} {h : Heap} {a : Addr} {its : Array Value} (x : IsQ t h a its) : ∃ o, h.get? a = some o := by
  cases t with
  | true => obtain ⟨o, e, _⟩ := x; exact ⟨o, e⟩
  | false => obtain ⟨o, e, _⟩ := x; exact ⟨o, e⟩
theorem isqi_obj {t : Bool} {h : Heap} {it a : Addr} {i : Nat} (x : IsQI t h it a i) : ∃ o, h.get? it = some o ∧ ∀ v, o.data ≠ .cell v := by
  cases t with
  | true => obtain ⟨o, e, _, d⟩ := x; exact ⟨o, e, fun v q => by rw [d] at q; cases q⟩
  | false => obtain ⟨o, e, _, d⟩ := x; exact ⟨o, e, fun v q => by rw [d] at q; cases q⟩
theorem isqi_at {t : Bool} {h h' : Heap} {it a : Addr} {i : Nat} (x : IsQI t h it a i) (k : ∀ o, h.get? it = some o → h'.get? it = some o) : IsQI t h' it a i := by
  cases t with
  | true => exact Heap.IsTupleIter.at x k
  | false => exact Heap.IsListIter.at x k
theorem isq_ne {t : Bool} {h : Heap} {it l a : Addr} {i : Nat} {its : Array Value} (x : IsQI t h it l i) (p : IsQ t h a its) : a ≠ it := fun e => by
  cases t with
  | true =>
    obtain ⟨o1, g1, c1, _⟩ := x
    obtain ⟨o2, g2, c2, _⟩ := p
    rw [e, g1] at g2; cases g2; rw [c1] at c2
    injection c2 with c3
    exact absurd c3 (by decide)
  | false =>
    obtain ⟨o1, g1, c1, _⟩ := x
    obtain ⟨o2, g2, c2, _⟩ := p
    rw [e, g1] at g2; cases g2; rw [c1] at c2
    injection c2 with c3
    exact absurd c3 (by decide)
theorem draws_q {prog : Program} {w : World} {A : Around} (hh : A.handled = none) (t : Bool) (it l : Addr) (hne : l ≠ it) (items : Array Value) :
    Draws prog w A it [it, l] items.size (fun i v => items[i]? = some v) (fun i h => IsQI t h it l i ∧ IsQ t h l items) := by
  cases t with
  | true => exact Draws.tuple hh it l hne items
  | false => exact Draws.list hh it l hne items
def itrO (t : Bool) (l : Addr) : Obj := match t with
  | true => { cls := .type "tuple_iterator", data := .fields #[.ref l, .int 0 0] }
  | false => { cls := .type "list_iterator", data := .fields #[.ref l, .int 0 0] }
theorem begins_q (t : Bool) (l : Addr) (items : Array Value) : Begins (.ref l) (itrO t l) fun h => IsQ t h l items := by
  cases t with
  | true => exact begins_tuple l items
  | false => exact begins_list l items
theorem itrO_is {t : Bool} {h : Heap} {it l : Addr} (e : h.get? it = some (itrO t l)) : IsQI t h it l 0 := by
  cases t with
  | true => exact ⟨_, e, rfl, rfl⟩
  | false => exact ⟨_, e, rfl, rfl⟩
def ItM (t1 t2 : Bool) (K : PySem.W.Frag) (a b : Addr) (n1 n2 : Nat) : It :=
  ⟨fun i H => ∃ (xs ys : List V) (x y : V), SqK t1 K H a xs ∧ SqK t2 K H b ys ∧ xs.length = n1 ∧ ys.length = n2 ∧ xs[i]? = some x ∧ ys[i]? = some y,
    fun i H v H' => ∃ T x y, v = .ref T ∧ H T = none ∧ (∃ ob : Obj, ob.dict = none ∧ H' = upd H T (.frz ob (.tup [x, y]))) ∧ (∀ xs, SqK t1 K H a xs → xs[i]? = some x) ∧ ∀ ys, SqK t2 K H b ys → ys[i]? = some y,
    fun i H => ∃ xs ys : List V, SqK t1 K H a xs ∧ SqK t2 K H b ys ∧ xs.length = n1 ∧ ys.length = n2 ∧ (n1 ≤ i ∨ n2 ≤ i)⟩
theorem turn_zipM {P : Program} {w : World} {K : PySem.W.Frag} {elts : List Expr} {kk : Nat} {tpos : Pos} {a b z TI TO i1 i2 : Addr} {n1 n2 : Nat} {t1 t2 : Bool} (D : ZipSep2 z TI TO i1 i2 [i1, a] [i2, b]) :
    Turn P w K (.Tuple elts kk tpos) (ItM t1 t2 K a b n1 n2) [z, TI, TO, i1, i2] z
      (fun i h => IsZip h z TI TO .none ∧ IsTupOf2 h TI (.ref i1) (.ref i2) ∧ (∃ x y, IsTupOf2 h TO x y) ∧ IsQI t1 h i1 a i ∧ IsQI t2 h i2 b i ∧ i ≤ n1 ∧ i ≤ n2) where
  mem := by simp
  obj := fun i h st c hc => by
    obtain ⟨hz, hTI, ⟨x, y, hTO⟩, h1, h2, _, _⟩ := st
    have e' : c = z ∨ c = TI ∨ c = TO ∨ c = i1 ∨ c = i2 := by simpa using hc
    rcases e' with q | q | q | q | q
    · rw [q]; exact ⟨_, hz, fun v q => nomatch q⟩
    · rw [q]; exact ⟨_, hTI, fun v q => nomatch q⟩
    · rw [q]; exact ⟨_, hTO, fun v q => nomatch q⟩
    · rw [q]; exact isqi_obj h1
    · rw [q]; exact isqi_obj h2
  keep := fun i h h' st k => by
    obtain ⟨hz, hTI, ⟨x, y, hTO⟩, h1, h2, l1, l2⟩ := st
    exact ⟨k z (by simp) _ hz, k TI (by simp) _ hTI, ⟨x, y, k TO (by simp) _ hTO⟩, isqi_at h1 fun o q => k i1 (by simp) o q, isqi_at h2 fun o q => k i2 (by simp) o q, l1, l2⟩
  item := by
    intro X hP hw hK hc i pins s σ H E I hf st hg
    subst hP hw hK
    obtain ⟨hz, hTI, ⟨x0, y0, hTO⟩, h1, h2, l1, l2⟩ := st
    obtain ⟨xs, ys, x, y, hqx, hqy, e1, e2, hx, hy⟩ := hg
    obtain ⟨its, rv, p, _⟩ := sqk_at I hqx
    obtain ⟨its2, rv2, p2, _⟩ := sqk_at I hqy
    obtain ⟨u, hu, ru⟩ := rv.get hx
    obtain ⟨u2, hu2, ru2⟩ := rv2.get hy
    have m1 : i < n1 := by rw [← e1]; exact (List.getElem?_eq_some_iff.mp hx).1
    have m2 : i < n2 := by rw [← e2]; exact (List.getElem?_eq_some_iff.mp hy).1
    have hzl : z < s.heap.objs.size := Heap.lt_size hz
    have ha : a ≠ i1 := isq_ne h1 p
    have hb : b ≠ i2 := isq_ne h2 p2
    refine wpAny_pyNext_zipD2_item D (draws_q (A := X.A.in1) (I.ok.hd hc) t1 i1 a ha its.toArray) (draws_q (A := X.A.in1) (I.ok.hd hc) t2 i2 b hb its2.toArray) hz hTI hTO ⟨h1, p⟩ ⟨h2, p2⟩
      (by rw [List.size_toArray, ← rv.length, e1]; exact m1) (by rw [List.size_toArray, ← rv2.length, e2]; exact m2) fun v1 v2 h' tk y1 y2 z' TO' st1 st2 hT hsz hk => ?_
    obtain rfl : u = v1 := by
      have : its[i]? = some v1 := by simpa using y1
      rw [hu] at this; cases this; rfl
    obtain rfl : u2 = v2 := by
      have : its2[i]? = some v2 := by simpa using y2
      rw [hu2] at this; cases this; rfl
    refine ⟨_, rfl, wpAny_letOwnedTupleGo_zip (s := { s with heap := h', toks := tk }) z' fun h'' z'' sb => ?_⟩
    have hT2 : h''.get? s.heap.objs.size = some { cls := .type "tuple", data := .seq #[u, u2] } := (sb.2 _ (Nat.ne_of_gt hzl)).trans hT
    have new : ObjOk X.prog X.w (upd H s.heap.objs.size (.frz (tupOb [u, u2]) (.tup [x, y]))) h'' s.heap.objs.size (.frz (tupOb [u, u2]) (.tup [x, y])) :=
      frz_ok (by show 2 ≤ sizeLine; decide) (.cons ru (.cons ru2 .nil)) hT2
    have I1 : Inv X pins σ (upd H s.heap.objs.size (.frz (tupOb [u, u2]) (.tup [x, y]))) { s with heap := h'', toks := tk } :=
      I.turnedNew (t' := tk) (ch := [z, TI, TO, i1, i2]) (fun c o hb q => (sb.2 c (fun q' => hb (by simp [q']))).trans (hk c o (fun q' => hb (by simp [q'])) (fun q' => hb (by simp [q'])) (fun q' => hb (by simp [q'])) (fun q' => hb (by simp [q'])) q)) hf (Nat.le_refl _) new
    refine ⟨.ref s.heap.objs.size, _, I1, rfl, ⟨_, x, y, rfl, I.hok.fresh (Nat.le_refl _), ⟨_, rfl, rfl⟩, fun l hl => by rw [sqk_inj I hl hqx]; exact hx, fun l hl => by rw [sqk_inj I hl hqy]; exact hy⟩, ⟨z'', ?_, ⟨u, u2, ?_⟩, ?_, ?_, m1, m2⟩, fun c hcm => ?_⟩
    · exact (sb.2 _ D.TIz).trans (hk _ _ D.TIz D.TITO D.TIi1 D.TIi2 hTI)
    · exact (sb.2 _ D.TOz).trans TO'
    · exact isqi_at st1.1 fun o q => (sb.2 _ (Ne.symm D.zi1)).trans q
    · exact isqi_at st2.1 fun o q => (sb.2 _ (Ne.symm D.zi2)).trans q
    · have hlt : c < s.heap.objs.size := by
        have e' : c = z ∨ c = TI ∨ c = TO ∨ c = i1 ∨ c = i2 := by simpa using hcm
        rcases e' with q | q | q | q | q
        · rw [q]; exact hzl
        · rw [q]; exact Heap.lt_size hTI
        · rw [q]; exact Heap.lt_size hTO
        · rw [q]; obtain ⟨_, e1, _⟩ := isqi_obj h1; exact Heap.lt_size e1
        · rw [q]; obtain ⟨_, e2, _⟩ := isqi_obj h2; exact Heap.lt_size e2
      rw [upd_ne (Nat.ne_of_lt hlt)]
      exact (hf c hcm).1
  done := by
    intro X hP hw hK hc i pins s σ H E I hf st hg
    subst hP hw hK
    obtain ⟨hz, hTI, ⟨x0, y0, hTO⟩, h1, h2, l1, l2⟩ := st
    obtain ⟨xs, ys, hqx, hqy, e1, e2, hend⟩ := hg
    obtain ⟨its, rv, p, _⟩ := sqk_at I hqx
    obtain ⟨its2, rv2, p2, _⟩ := sqk_at I hqy
    have ha : a ≠ i1 := isq_ne h1 p
    have hb : b ≠ i2 := isq_ne h2 p2
    have z1 : its.toArray.size = n1 := by rw [List.size_toArray, ← rv.length, e1]
    have z2 : its2.toArray.size = n2 := by rw [List.size_toArray, ← rv2.length, e2]
    exact wpAny_pyNext_zipD2_end D (draws_q (A := X.A.in1) (I.ok.hd hc) t1 i1 a ha its.toArray) (draws_q (A := X.A.in1) (I.ok.hd hc) t2 i2 b hb its2.toArray) hz hTI hTO ⟨h1, p⟩ ⟨h2, p2⟩ (by omega) (by omega) (by omega) fun h' tk hk => ⟨rfl, I.turnedL (t' := tk) (ch := [z, TI, TO, i1, i2]) (fun c o hb q =>
      hk c o (fun q' => hb (by simp [q'])) (fun q' => hb (by simp [q'])) (fun q' => hb (by simp [q'])) (fun q' => hb (by simp [q'])) q) hf⟩
  self := fun A i s Q E st h => wpAny_pyIter_zip st.1 h

/-- what zip may walk at the T level -/
def sqT? (S : Sto) : T → Option (Bool × List T)
  | .tup xs => some (true, xs)
  | .fl xs => some (false, xs)
  | .adr a => (lstAt S a).map fun xs => (false, xs)
  | _ => none
def liveT (x : T) (xs : List T) : Sto → Prop := fun S => match x with | .adr a => lstAt S a = some xs | _ => True
theorem sqT_of {K : Zk} {S : Sto} {H : Hp} (rs : RelS K S H) {x : T} {v : V} (r : RT K H x v) {k : Bool} {xs : List T} (e : sqT? S x = some (k, xs)) : ∃ a vs, v = .ref a ∧ SqK k K.K H a vs ∧ RTs K H xs vs := by
  cases x with
  | tup ys => cases e; rw [rt_tup] at r; obtain ⟨a, vs, h1, h2, h3⟩ := r; exact ⟨a, vs, h1, h2.sqT, h3⟩
  | fl ys => cases e; rw [rt_fl] at r; obtain ⟨a, vs, h1, h2, h3⟩ := r; exact ⟨a, vs, h1, h2.sqL, h3⟩
  | adr a =>
    rw [rt_adr] at r
    have e : (lstAt S a).map (fun xs => (false, xs)) = some (k, xs) := e
    cases e1 : lstAt S a with
    | none => rw [e1] at e; cases e
    | some ys =>
      rw [e1] at e; cases e
      obtain ⟨vs, h1, h2⟩ := rs.list e1
      exact ⟨a, vs, r, h1, h2⟩
  | _ => cases e
theorem sqT_live {S S' : Sto} {x : T} {k : Bool} {xs : List T} (e : sqT? S x = some (k, xs)) (l : liveT x xs S') : sqT? S' x = some (k, xs) := by
  cases x with
  | adr a =>
    have e : (lstAt S a).map (fun xs => (false, xs)) = some (k, xs) := e
    have l : lstAt S' a = some xs := l
    show (lstAt S' a).map (fun xs => (false, xs)) = some (k, xs)
    rw [l]
    cases e1 : lstAt S a with
    | none => rw [e1] at e; cases e
    | some ys => rw [e1] at e; cases e; rfl
  | _ => exact e
def zipT : List T → List T → List T
  | x :: xs, y :: ys => .tup [x, y] :: zipT xs ys
  | _, _ => []
theorem zipT_some : ∀ {xs ys : List T} {i : Nat} {z : T}, (zipT xs ys)[i]? = some z → ∃ x y, xs[i]? = some x ∧ ys[i]? = some y ∧ z = .tup [x, y]
  | [], _, _, _, e => by simp [zipT] at e
  | _ :: _, [], _, _, e => by simp [zipT] at e
  | x :: xs, y :: ys, 0, z, e => by simp [zipT] at e; exact ⟨x, y, rfl, rfl, e.symm⟩
  | x :: xs, y :: ys, i + 1, z, e => by simpa using zipT_some (xs := xs) (ys := ys) (i := i) (by simpa [zipT] using e)
theorem zipT_none : ∀ {xs ys : List T} {i : Nat}, (zipT xs ys)[i]? = none → xs.length ≤ i ∨ ys.length ≤ i
  | [], _, _, _ => .inl (Nat.zero_le _)
  | _ :: _, [], _, _ => .inr (Nat.zero_le _)
  | x :: xs, y :: ys, 0, e => by simp [zipT] at e
  | x :: xs, y :: ys, i + 1, e => by
    have := zipT_none (xs := xs) (ys := ys) (i := i) (by simpa [zipT] using e)
    simpa using this
def tiZip (ta : TTA) : TTI := fun ρ S Q => ta ρ S fun vs S1 => match vs with
  | [x, y] => (match sqT? S1 x, sqT? S1 y with
    | some (_, xs), some (_, ys) => Q ⟨zipT xs ys, fun S => liveT x xs S ∧ liveT y ys S⟩ S1
    | _, _ => False)
  | _ => False
theorem RT.exti {K : Zk} {H H' : Hp} (x : Ext H H') {t : T} {v : V} (h : RT K H t v) : RT K H' t v := RT.ext x t h
theorem i_zip {X : Cx} {e e2 : Expr} {ta : TTA} {p pos tpos : Pos} {elts : List Expr} {kk : Nat} (hg : Gl X "zip") (hm : X.mg "zip" = none) (ha : QA X [e, e2] ta)
    (hs : starEach [e, e2] X.env = (false, eval e X.env) :: starEach [e2] X.env := by rfl) (hpl : (backTo pos (starEach [e2] X.env)).any (·.1) = false := by rfl) :
    QI X (.Tuple elts kk tpos) (.Call (.Name "zip" p) [e, e2] [] pos) (tiZip ta) := by
  refine ⟨fun pins s σ H R I h => ?_⟩
  obtain ⟨ρ, S, Q', rs, re, q, m⟩ := h
  refine Call_ (ld_blt I hg hm PyProof.Rows.boot_zip (PyProof.Rows.callWith_type1 (thn (ha.run pos pins s σ H _ I (LA.mk (R := WA (zx X) H _) rs re q fun r S' v H' e1 r1 r2 r3 => ⟨r, S', e1, r1, r2, r3⟩)) fun us s1 ⟨vs, H1, I1, r1, ⟨ts, S1, e1, rs1, rr, q1⟩⟩ => ?_) hs hpl))
  dsimp only at q1
  split at q1
  · rename_i x y
    split at q1
    · rename_i k1 xs k2 ys ex ey
      obtain ⟨v1, v2, rfl, g1, g2⟩ := rr.two'
      obtain ⟨a, vs1, rfl, hqx, rx⟩ := sqT_of rs1 g1 ex
      obtain ⟨b, vs2, rfl, hqy, ry⟩ := sqT_of rs1 g2 ey
      cases r1 with
      | cons r rr' =>
        cases rr' with
        | cons r' rr' =>
          cases rr'
          cases r
          cases r'
          obtain ⟨its, rv, p1, la⟩ := sqk_at I1 hqx
          obtain ⟨its2, rv2, p2, lb⟩ := sqk_at I1 hqy
          have fresh5 : ∀ c, c ∈ [s1.heap.objs.size + 4, s1.heap.objs.size + 2, s1.heap.objs.size + 3, s1.heap.objs.size, s1.heap.objs.size + 1] → FpOk X pins H1 c := fun c hcm => by
            have e' : c = s1.heap.objs.size + 4 ∨ c = s1.heap.objs.size + 2 ∨ c = s1.heap.objs.size + 3 ∨ c = s1.heap.objs.size ∨ c = s1.heap.objs.size + 1 := by simpa using hcm
            have hle : s1.heap.objs.size ≤ c := by
              rcases e' with z | z | z | z | z
              · rw [z]; exact Nat.le_add_right _ _
              · rw [z]; exact Nat.le_add_right _ _
              · rw [z]; exact Nat.le_add_right _ _
              · rw [z]; exact Nat.le_refl _
              · rw [z]; exact Nat.le_add_right _ _
            exact I1.fpOk hle (I1.hok.fresh hle)
          refine zip_begins2 (begins_q k1 a its.toArray) (begins_q k2 b its2.toArray) p1 p2 fun h' hz hTI hTO h1 h2 hsz hk => wpAny_pyIter_zip hz ?_
          have I2 : Inv X pins σ H1 { s1 with heap := h' } := I1.kept (t' := s1.toks) hk
          refine ⟨s1.heap.objs.size + 4, [s1.heap.objs.size + 4, s1.heap.objs.size + 2, s1.heap.objs.size + 3, s1.heap.objs.size, s1.heap.objs.size + 1], _, ItM k1 k2 X.K a b xs.length ys.length, H1, rfl, I2,
            turn_zipM (zip_sep2 (N := s1.heap.objs.size) (fp1 := [a]) (fp2 := [b]) (fun c hc => by rw [List.mem_singleton.mp hc]; exact la) (fun c hc => by rw [List.mem_singleton.mp hc]; exact lb)), ⟨hz, hTI, ⟨_, _, hTO⟩, itrO_is h1, itrO_is h2, Nat.zero_le _, Nat.zero_le _⟩, fresh5,
            m _ _ _ _ e1 rs1 ?_ q1⟩
          refine ⟨fun i S' H' z rs' ext' live ei => ?_, fun i S' H' rs' ext' live ei => ?_⟩
          · obtain ⟨x', y', hx, hy, rfl⟩ := zipT_some ei
            obtain ⟨a', ws1, ea, hq1, r1'⟩ := sqT_of rs' (RT.exti ext' g1) (sqT_live ex live.1)
            obtain ⟨b', ws2, eb, hq2, r2'⟩ := sqT_of rs' (RT.exti ext' g2) (sqT_live ey live.2)
            cases ea; cases eb
            obtain ⟨w1, hw1, rw1⟩ := r1'.get hx
            obtain ⟨w2, hw2, rw2⟩ := r2'.get hy
            refine ⟨⟨ws1, ws2, w1, w2, hq1, hq2, r1'.length.symm, r2'.length.symm, hw1, hw2⟩, fun v H'' yl => ?_⟩
            obtain ⟨T', x2, y2, rfl, hT, ⟨ob, hob, rfl⟩, f1, f2⟩ := yl
            have z1 := f1 _ hq1
            rw [hw1] at z1; cases z1
            have z2 := f2 _ hq2
            rw [hw2] at z2; cases z2
            refine ⟨.new hT, rs'.new hT, ?_⟩
            rw [rt_tup]
            exact ⟨T', _, rfl, .inl ⟨ob, upd_same, hob⟩, .cons (RT.exti (.new hT) rw1) (.cons (RT.exti (.new hT) rw2) .nil)⟩
          · obtain ⟨a', ws1, ea, hq1, r1'⟩ := sqT_of rs' (RT.exti ext' g1) (sqT_live ex live.1)
            obtain ⟨b', ws2, eb, hq2, r2'⟩ := sqT_of rs' (RT.exti ext' g2) (sqT_live ey live.2)
            cases ea; cases eb
            exact ⟨ws1, ws2, hq1, hq2, r1'.length.symm, r2'.length.symm, zipT_none ei⟩
    · exact q1.elim
  · exact q1.elim
end TL
set_option Elab.async false
set_option linter.all false
set_option maxRecDepth 100000
set_option maxHeartbeats 1000000
/-! TL7: the language's own functions over T. -/
namespace TL
open PySem PySem.Spec PyProof.Rows L2

abbrev OA := List T → Sto → (T → Sto → Prop) → Prop
def tbi (o : OA) (t : TTA) : TTE := fun ρ S Q => t ρ S fun vs S1 => o vs S1 Q
/-- a rule by values -/
def OpA (K : Zk) (r : List V → Hp → VK → Prop) (o : OA) : Prop :=
  ∀ ts vs S H H0 Q R, Ext H0 H → RelS K S H → RTs K H ts vs → o ts S Q → (∀ v H', WE K H0 Q v H' → R v H') → r vs H R
section
variable {X : Cx} {x : Str} {p pos : Pos} {e : Expr} {es : List Expr} {t : TTA} {id Ty : String} {r : List V → Hp → VK → Prop} {o : OA}
theorem q_bi (hc : CallR X (.builtin id) r) (h : OpA (zx X) r o) (hg : Gl X x) (hm : X.mg x = none) (hv : bootBuiltins x = some (.builtin id)) (ha : QA X (e :: es) t) (hn : x ≠ "__name__" := by decide) (hdb : (x == ("__debug__" : Str)) = false := by decide)
    (he : starEach (e :: es) X.env = (false, eval e X.env) :: starEach es X.env := by rfl) (hpl : (backTo pos (starEach es X.env)).any (·.1) = false := by rfl) : QE X (.Call (.Name x p) (e :: es) [] pos) (tbi o t) :=
  qe_of (pe_callB hc hg hm hv ha hn hdb he hpl) fun σ H ρ S Q rs re q => LA.mk rs re q fun ts S1 vs H1 e1 rs1 rr q1 => h ts vs S1 H1 H Q _ e1 rs1 rr q1 fun _ _ w => w
theorem q_ty (hc : CallR X (.type Ty) r) (h : OpA (zx X) r o) (hg : Gl X x) (hm : X.mg x = none) (hv : bootBuiltins x = some (.type Ty)) (ha : QA X (e :: es) t) (hn : x ≠ "__name__" := by decide) (hdb : (x == ("__debug__" : Str)) = false := by decide)
    (he : starEach (e :: es) X.env = (false, eval e X.env) :: starEach es X.env := by rfl) (hpl : (backTo pos (starEach es X.env)).any (·.1) = false := by rfl) : QE X (.Call (.Name x p) (e :: es) [] pos) (tbi o t) :=
  qe_of (pe_callTy hc hg hm hv ha hn hdb he hpl) fun σ H ρ S Q rs re q => LA.mk rs re q fun ts S1 vs H1 e1 rs1 rr q1 => h ts vs S1 H1 H Q _ e1 rs1 rr q1 fun _ _ w => w
end
/-! len -/
def oLen : OA := fun ts S Q => match ts with
  | [.tup xs] => Q (.int xs.length) S
  | [.fl xs] => Q (.int xs.length) S
  | [.str z] => z.length ≤ sizeLine ∧ Q (.int z.length) S
  | [.adr a] => (match S a with
    | some (.lst xs) => Q (.int xs.length) S
    | some (.dk kvs) => Q (.int kvs.length) S
    | _ => False)
  | _ => False
/-! int -/
def oInt : OA := fun ts S Q => match ts with
  | [.int i] => Q (.int i) S
  | [.bl b] => Q (.int (if b then 1 else 0)) S
  | _ => False
/-! sum, max, min -/
def intsT : List T → Option (List Int)
  | [] => some []
  | .int i :: r => (intsT r).map (i :: ·)
  | _ :: _ => none
theorem intsT_of : ∀ {ts : List T} {ns : List Int}, intsT ts = some ns → ts = ns.map T.int
  | [], ns, e => by cases e; rfl
  | .int i :: r, ns, e => by
    have e : (intsT r).map (i :: ·) = some ns := e
    cases e1 : intsT r with
    | none => rw [e1] at e; cases e
    | some l => rw [e1] at e; cases e; rw [intsT_of e1]; rfl
theorem intsT_map (ns : List Int) : intsT (ns.map T.int) = some ns := by
  induction ns with
  | nil => rfl
  | cons n ns ih => show (intsT (ns.map T.int)).map (n :: ·) = _; rw [ih]; rfl
def oSum : OA := fun ts S Q => match ts with
  | [.adr a] => (match (lstAt S a).bind intsT with | some ns => Q (.int ns.sum) S | none => False)
  | [.fl xs] => (match intsT xs with | some ns => Q (.int ns.sum) S | none => False)
  | _ => False
def oMax2 : OA := fun ts S Q => match ts with | [.int i, .int j] => Q (.int (if j > i then j else i)) S | _ => False
def oMin2 : OA := fun ts S Q => match ts with | [.int i, .int j] => Q (.int (if j < i then j else i)) S | _ => False
def oMaxL : OA := fun ts S Q => match ts with
  | [.adr a] => (match (lstAt S a).bind intsT with | some ns => 0 < ns.length ∧ ∀ m, m ∈ ns → (∀ y, y ∈ ns → y ≤ m) → Q (.int m) S | none => False)
  | _ => False
/-! tuple(list), list(tuple) -/
def oTup : OA := fun ts S Q => match ts with
  | [.tup xs] => Q (.tup xs) S
  | [.fl xs] => Q (.tup xs) S
  | [.adr a] => (match lstAt S a with | some xs => Q (.tup xs) S | none => False)
  | _ => False
def oLst : OA := fun ts S Q => match ts with
  | [.tup xs] => NewO S (.lst xs) Q
  | [.fl xs] => NewO S (.lst xs) Q
  | [.adr a] => (match lstAt S a with | some xs => NewO S (.lst xs) Q | none => False)
  | _ => False
section
variable {X : Cx} {x : Str} {p pos : Pos} {e : Expr} {es : List Expr} {t : TTA}
theorem RTs.ints' {K : Zk} {H : Hp} {xs : List T} {ns : List Int} {vs : List V} (e : intsT xs = some ns) (h : RTs K H xs vs) : vs = ns.map V.int := by
  rw [intsT_of e] at h
  exact h.ints
theorem oa_len : OpA (zx X) (fun xs H Q => ((∃ p ys, xs = [.ref p] ∧ (SqL X.K H p ys ∨ SqT X.K H p ys) ∧ Q (.int ys.length) H) ∨ ∃ z, xs = [.str z] ∧ z.length ≤ sizeLine ∧ Q (.int z.length) H) ∨ ∃ a kvs, xs = [V.ref a] ∧ H a = some (.dK kvs) ∧ Q (.int kvs.length) H) oLen := by
  intro ts vs S H H0 Q R e rs rr q k
  unfold oLen at q
  split at q
  · obtain ⟨v, rfl, h⟩ := rr.one'
    rw [rt_tup] at h
    obtain ⟨a, ws, rfl, h1, h2⟩ := h
    exact .inl (.inl ⟨a, ws, rfl, .inr h1.sqT, k _ _ (.here e rs (by rw [rt_int, ← h2.length]) q)⟩)
  · obtain ⟨v, rfl, h⟩ := rr.one'
    rw [rt_fl] at h
    obtain ⟨a, ws, rfl, h1, h2⟩ := h
    exact .inl (.inl ⟨a, ws, rfl, .inl h1.sqL, k _ _ (.here e rs (by rw [rt_int, ← h2.length]) q)⟩)
  · obtain ⟨v, rfl, h⟩ := rr.one'
    rw [rt_str] at h
    subst h
    exact .inl (.inr ⟨_, rfl, q.1, k _ _ (.here e rs (by rw [rt_int]) q.2)⟩)
  · obtain ⟨v, rfl, h⟩ := rr.one'
    rw [rt_adr] at h
    subst h
    split at q
    · rename_i xs ex
      obtain ⟨ws, h1, h2⟩ := rs _ _ ex
      exact .inl (.inl ⟨_, ws, rfl, .inl (.inl (.inl h1)), k _ _ (.here e rs (by rw [rt_int, ← h2.length]) q)⟩)
    · rename_i kvs ex
      obtain ⟨ws, h1, h2⟩ := rs _ _ ex
      exact .inr ⟨_, ws, rfl, h1, k _ _ (.here e rs (by rw [rt_int, ← h2.length]) q)⟩
    · exact q.elim
  · exact q.elim
theorem q_len (hg : Gl X "len") (hm : X.mg "len" = none) (ha : QA X (e :: es) t) (he : starEach (e :: es) X.env = (false, eval e X.env) :: starEach es X.env := by rfl) (hpl : (backTo pos (starEach es X.env)).any (·.1) = false := by rfl) :
    QE X (.Call (.Name "len" p) (e :: es) [] pos) (tbi oLen t) := q_bi ((call_len_seq.or call_len_str).or call_lenD) oa_len hg hm boot_len ha (by decide) (by decide) he hpl
theorem oa_int : OpA (zx X) (fun xs H Q => (∃ i, xs = [.int i] ∧ Q (.int i) H) ∨ ∃ k, xs = [.bl k] ∧ Q (.int (if k then 1 else 0)) H) oInt := by
  intro ts vs S H H0 Q R e rs rr q k
  unfold oInt at q
  split at q
  · obtain ⟨v, rfl, h⟩ := rr.one'
    rw [rt_int] at h
    subst h
    exact .inl ⟨_, rfl, k _ _ (.here e rs (by rw [rt_int]) q)⟩
  · obtain ⟨v, rfl, h⟩ := rr.one'
    rw [rt_bl] at h
    subst h
    exact .inr ⟨_, rfl, k _ _ (.here e rs (by rw [rt_int]) q)⟩
  · exact q.elim
theorem q_int (hg : Gl X "int") (hm : X.mg "int" = none) (ha : QA X (e :: es) t) (he : starEach (e :: es) X.env = (false, eval e X.env) :: starEach es X.env := by rfl) (hpl : (backTo pos (starEach es X.env)).any (·.1) = false := by rfl) :
    QE X (.Call (.Name "int" p) (e :: es) [] pos) (tbi oInt t) := q_ty call_int1 oa_int hg hm (by decide +kernel) ha (by decide) (by decide) he hpl
theorem oa_sum : OpA (zx X) (rSum X.K) oSum := by
  intro ts vs S H H0 Q R e rs rr q k
  unfold oSum at q
  split at q
  · obtain ⟨v, rfl, h⟩ := rr.one'
    rw [rt_adr] at h
    subst h
    split at q
    · rename_i ns en
      obtain ⟨xs, e1, e2⟩ := Option.bind_eq_some_iff.mp en
      obtain ⟨ws, h1, h2⟩ := rs.list e1
      rw [RTs.ints' e2 h2] at h1
      exact ⟨_, ns, rfl, h1, k _ _ (.here e rs (by rw [rt_int]) q)⟩
    · exact q.elim
  · obtain ⟨v, rfl, h⟩ := rr.one'
    rw [rt_fl] at h
    obtain ⟨a, ws, rfl, h1, h2⟩ := h
    split at q
    · rename_i ns en
      rw [RTs.ints' en h2] at h1
      exact ⟨_, ns, rfl, h1.sqL, k _ _ (.here e rs (by rw [rt_int]) q)⟩
    · exact q.elim
  · exact q.elim
theorem q_sum (hc : X.calm = true) (hg : Gl X "sum") (hm : X.mg "sum" = none) (ha : QA X (e :: es) t) (he : starEach (e :: es) X.env = (false, eval e X.env) :: starEach es X.env := by rfl) (hpl : (backTo pos (starEach es X.env)).any (·.1) = false := by rfl) :
    QE X (.Call (.Name "sum" p) (e :: es) [] pos) (tbi oSum t) := q_bi (cr_sum hc) oa_sum hg hm (by decide +kernel) ha (by decide) (by decide) he hpl
theorem oa_max2 : OpA (zx X) (fun xs H Q => ∃ i j, xs = [.int i, .int j] ∧ Q (.int (if j > i then j else i)) H) oMax2 := by
  intro ts vs S H H0 Q R e rs rr q k
  unfold oMax2 at q
  split at q
  · obtain ⟨v, u, rfl, h1, h2⟩ := rr.two'
    rw [rt_int] at h1 h2
    subst h1; subst h2
    exact ⟨_, _, rfl, k _ _ (.here e rs (by rw [rt_int]) q)⟩
  · exact q.elim
theorem oa_min2 : OpA (zx X) (fun xs H Q => ∃ i j, xs = [.int i, .int j] ∧ Q (.int (if j < i then j else i)) H) oMin2 := by
  intro ts vs S H H0 Q R e rs rr q k
  unfold oMin2 at q
  split at q
  · obtain ⟨v, u, rfl, h1, h2⟩ := rr.two'
    rw [rt_int] at h1 h2
    subst h1; subst h2
    exact ⟨_, _, rfl, k _ _ (.here e rs (by rw [rt_int]) q)⟩
  · exact q.elim
theorem oa_maxL : OpA (zx X) (rMax X.K) oMaxL := by
  intro ts vs S H H0 Q R e rs rr q k
  unfold oMaxL at q
  split at q
  · obtain ⟨v, rfl, h⟩ := rr.one'
    rw [rt_adr] at h
    subst h
    split at q
    · rename_i ns en
      obtain ⟨xs, e1, e2⟩ := Option.bind_eq_some_iff.mp en
      obtain ⟨ws, h1, h2⟩ := rs.list e1
      rw [RTs.ints' e2 h2] at h1
      exact ⟨_, ns, rfl, h1, q.1, fun m a b => k _ _ (.here e rs (by rw [rt_int]) (q.2 m a b))⟩
    · exact q.elim
  · exact q.elim
theorem q_max2 (hc : X.calm = true) (hg : Gl X "max") (hm : X.mg "max" = none) (ha : QA X (e :: es) t) (he : starEach (e :: es) X.env = (false, eval e X.env) :: starEach es X.env := by rfl) (hpl : (backTo pos (starEach es X.env)).any (·.1) = false := by rfl) :
    QE X (.Call (.Name "max" p) (e :: es) [] pos) (tbi oMax2 t) := q_bi (call_max2 hc) oa_max2 hg hm (by decide +kernel) ha (by decide) (by decide) he hpl
theorem q_maxL (hc : X.calm = true) (hg : Gl X "max") (hm : X.mg "max" = none) (ha : QA X (e :: es) t) (he : starEach (e :: es) X.env = (false, eval e X.env) :: starEach es X.env := by rfl) (hpl : (backTo pos (starEach es X.env)).any (·.1) = false := by rfl) :
    QE X (.Call (.Name "max" p) (e :: es) [] pos) (tbi oMaxL t) := q_bi (cr_max hc) oa_maxL hg hm (by decide +kernel) ha (by decide) (by decide) he hpl
theorem q_min2 (hc : X.calm = true) (hg : Gl X "min") (hm : X.mg "min" = none) (ha : QA X (e :: es) t) (he : starEach (e :: es) X.env = (false, eval e X.env) :: starEach es X.env := by rfl) (hpl : (backTo pos (starEach es X.env)).any (·.1) = false := by rfl) :
    QE X (.Call (.Name "min" p) (e :: es) [] pos) (tbi oMin2 t) := q_bi (call_min2 hc) oa_min2 hg hm (by decide +kernel) ha (by decide) (by decide) he hpl
theorem oa_tup : OpA (zx X) (fun xs H Q => ∃ p ys, xs = [.ref p] ∧ ((SqL X.K H p ys ∧ NewT H ys Q) ∨ (SqT X.K H p ys ∧ Q (.ref p) H))) oTup := by
  intro ts vs S H H0 Q R e rs rr q k
  unfold oTup at q
  split at q
  · obtain ⟨v, rfl, h⟩ := rr.one'
    have h' := h
    rw [rt_tup] at h
    obtain ⟨a, ws, rfl, h1, h2⟩ := h
    exact ⟨a, ws, rfl, .inr ⟨h1.sqT, k _ _ (.here e rs h' q)⟩⟩
  · obtain ⟨v, rfl, h⟩ := rr.one'
    rw [rt_fl] at h
    obtain ⟨a, ws, rfl, h1, h2⟩ := h
    exact ⟨a, ws, rfl, .inl ⟨h1.sqL, fun l ob hl hd => k _ _ (.tup e rs hl hd h2 q)⟩⟩
  · obtain ⟨v, rfl, h⟩ := rr.one'
    rw [rt_adr] at h
    subst h
    split at q
    · rename_i xs ex
      obtain ⟨ws, h1, h2⟩ := rs.list ex
      exact ⟨_, ws, rfl, .inl ⟨h1, fun l ob hl hd => k _ _ (.tup e rs hl hd h2 q)⟩⟩
    · exact q.elim
  · exact q.elim
theorem q_tuple (hg : Gl X "tuple") (hm : X.mg "tuple" = none) (ha : QA X (e :: es) t) (he : starEach (e :: es) X.env = (false, eval e X.env) :: starEach es X.env := by rfl) (hpl : (backTo pos (starEach es X.env)).any (·.1) = false := by rfl) :
    QE X (.Call (.Name "tuple" p) (e :: es) [] pos) (tbi oTup t) := q_ty call_tupleF oa_tup hg hm (by decide +kernel) ha (by decide) (by decide) he hpl
theorem oa_lst : OpA (zx X) (fun xs H Q => ∃ p ys, xs = [.ref p] ∧ (SqL X.K H p ys ∨ SqT X.K H p ys) ∧ ∀ l, H l = none → Q (.ref l) (upd H l (.lst ys))) oLst := by
  intro ts vs S H H0 Q R e rs rr q k
  unfold oLst at q
  split at q
  · obtain ⟨v, rfl, h⟩ := rr.one'
    rw [rt_tup] at h
    obtain ⟨a, ws, rfl, h1, h2⟩ := h
    exact ⟨a, ws, rfl, .inr h1.sqT, fun l hl => k _ _ (.lst e rs hl h2 (q.at (rs.none_of hl)))⟩
  · obtain ⟨v, rfl, h⟩ := rr.one'
    rw [rt_fl] at h
    obtain ⟨a, ws, rfl, h1, h2⟩ := h
    exact ⟨a, ws, rfl, .inl h1.sqL, fun l hl => k _ _ (.lst e rs hl h2 (q.at (rs.none_of hl)))⟩
  · obtain ⟨v, rfl, h⟩ := rr.one'
    rw [rt_adr] at h
    subst h
    split at q
    · rename_i xs ex
      obtain ⟨ws, h1, h2⟩ := rs.list ex
      exact ⟨_, ws, rfl, .inl h1, fun l hl => k _ _ (.lst e rs hl h2 (q.at (rs.none_of hl)))⟩
    · exact q.elim
  · exact q.elim
theorem q_list (hg : Gl X "list") (hm : X.mg "list" = none) (ha : QA X (e :: es) t) (he : starEach (e :: es) X.env = (false, eval e X.env) :: starEach es X.env := by rfl) (hpl : (backTo pos (starEach es X.env)).any (·.1) = false := by rfl) :
    QE X (.Call (.Name "list" p) (e :: es) [] pos) (tbi oLst t) := q_ty call_list_of oa_lst hg hm (by decide +kernel) ha (by decide) (by decide) he hpl
end
/-! list(reversed(xs)), list(range(n)) -/
def tlRev (te : TTE) : TTE := fun ρ S Q => te ρ S fun x S1 => match x with
  | .adr a => (match lstAt S1 a with | some xs => NewO S1 (.lst xs.reverse) Q | none => False)
  | .fl xs => NewO S1 (.lst xs.reverse) Q
  | _ => False
def tlRng1 (te : TTE) : TTE := fun ρ S Q => te ρ S fun x S1 => match x with
  | .int n => 0 ≤ n ∧ n ≤ 4000 ∧ NewO S1 (.lst (rngT 0 n.toNat)) Q
  | _ => False
section
variable {X : Cx} {e : Expr} {te : TTE} {p p2 pos pos2 : Pos}
theorem q_lstRev (hc : X.calm = true) (hg : Gl X "list") (hm : X.mg "list" = none) (hg2 : Gl X "reversed") (hm2 : X.mg "reversed" = none) (he : QE X e te)
    (hs : starEach [e] X.env = (false, eval e X.env) :: starEach [] X.env := by rfl)
    (hs2 : starEach [.Call (.Name "reversed" p2) [e] [] pos2] X.env = (false, eval (.Call (.Name "reversed" p2) [e] [] pos2) X.env) :: starEach [] X.env := by rfl) :
    QE X (.Call (.Name "list" p) [.Call (.Name "reversed" p2) [e] [] pos2] [] pos) (tlRev te) := by
  refine qe_of (pe_lstRev hc hg hm hg2 hm2 he hs hs2) fun σ H ρ S Q rs re q => LE.mk rs re q fun x S1 v H1 e1 rs1 rx q1 => ?_
  split at q1
  · rw [rt_adr] at rx
    split at q1
    · rename_i xs ex
      obtain ⟨ws, h1, h2⟩ := rs1.list ex
      exact ⟨_, ws, rx, h1, fun l hl => .lst e1 rs1 hl h2.reverse (q1.at (rs1.none_of hl))⟩
    · exact q1.elim
  · rw [rt_fl] at rx
    obtain ⟨a, ws, rfl, h1, h2⟩ := rx
    exact ⟨_, ws, rfl, h1.sqL, fun l hl => .lst e1 rs1 hl h2.reverse (q1.at (rs1.none_of hl))⟩
  · exact q1.elim
end
/-! methods -/
def tm1 (o : O2) (ta tb : TTE) : TTE := fun ρ S Q => ta ρ S fun x S1 => tb ρ S1 fun y S2 => o x y S2 Q
def oAppend : O2 := fun x y S Q => match x with
  | .adr a => (match S a with | some (.lst xs) => xs.length < sizeLine ∧ Q .non (S.set a (.lst (xs ++ [y]))) | _ => False)
  | _ => False
def oPop0 (x : T) (S : Sto) (Q : T → Sto → Prop) : Prop := match x with
  | .adr a => (match S a with | some (.lst xs) => (match xs[xs.length - 1]? with | some y => Q y (S.set a (.lst xs.dropLast)) | none => False) | _ => False)
  | _ => False
def oPopAt : O2 := fun x y S Q => match x, y with
  | .adr a, .int i => (match S a with
    | some (.lst xs) => (-(2 ^ 63) ≤ i ∧ i < 2 ^ 63) ∧ (match seqIndex? i xs.length with
      | some k => (match xs[k]? with | some z => Q z (S.set a (.lst (xs.eraseIdx k))) | none => False)
      | none => False)
    | _ => False)
  | _, _ => False
/-- the object's list is there before the argument is evaluated -/
def isLst (S : Sto) : T → Prop | .adr a => (lstAt S a).isSome = true | _ => False
def tml (o : O2) (ta : TTE) (tb : TTE) : TTE := fun ρ S Q => ta ρ S fun x S1 => isLst S1 x ∧ tb ρ S1 fun y S2 => o x y S2 Q
def tml0 (o : T → Sto → (T → Sto → Prop) → Prop) (ta : TTE) : TTE := fun ρ S Q => ta ρ S fun x S1 => isLst S1 x ∧ o x S1 Q
theorem Ext.lset {H : Hp} {p : Addr} {xs ys : List V} (h : H p = some (.lst xs)) : Ext H (upd H p (.lst ys)) := .write h (fun _ z => nomatch z) (fun _ _ z => nomatch z)
section
variable {X : Cx} {o e : Expr} {to te : TTE} {apos cpos : Pos}
theorem ty_lst {S : Sto} {H : Hp} {x : T} {v : V} (rs : RelS (zx X) S H) (r : RT (zx X) H x v) (h : isLst S x) : tyV X.K "list" v H := by
  cases x with
  | adr a =>
    rw [rt_adr] at r
    subst r
    obtain ⟨xs, e⟩ := Option.isSome_iff_exists.mp (show (lstAt S a).isSome = true from h)
    obtain ⟨vs, h1, _⟩ := rs.list e
    exact .inl ⟨rfl, vs, h1⟩
  | _ => exact h.elim
theorem q_append (ho : QE X o to) (he : QE X e te) (hbase : attributeBase o "append" X.env (eval o X.env) = eval o X.env := by rfl)
    (hfew : ((backTo cpos (starEach [e] X.env)).all (fun x => !x.1) && (backToKw cpos (keywordEach [] X.env)).all (fun x => x.1.isSome)
      && decide ([e].length + ([] : List Keyword).length + (if ([] : List Keyword).isEmpty then 0 else 1) < 30)) = true := by rfl)
    (hline : (apos.endLine == cpos.line) = true := by rfl) (hs : starEach [e] X.env = (false, eval e X.env) :: starEach [] X.env := by rfl) (hplain : (backTo cpos (starEach [] X.env)).any (·.1) = false := by rfl) :
    QE X (.Call (.Attribute o "append" apos) [e] [] cpos) (tml oAppend to te) :=
  qe_of (pe_bm F.plainAttrs_list F.slot_list_append F.type_list_append mt_append ho (pa_cons he pa_nil hs) hbase hfew hline hs hplain) fun σ H ρ S Q rs re q => LE.mk rs re q fun x S1 v H1 e1 rs1 rx q1 => by
    refine ⟨ty_lst rs1 rx q1.1, LE.mk rs1 (re.ext e1) q1.2 fun y S2 u H2 e2 rs2 ry q2 => ?_⟩
    unfold oAppend at q2
    split at q2
    · rw [rt_adr] at rx
      split at q2
      · rename_i xs ex
        obtain ⟨ws, h1, h2⟩ := rs2 _ _ ex
        exact ⟨_, ws, u, rx, rfl, h1, by rw [← h2.length]; exact q2.1, .non, _, (e1.trans e2).trans (.lset h1), rs2.put (m := .lst (xs ++ [y])) (.lset h1) ⟨_, upd_same, RTs.ext (.lset h1) _ (h2.append (.cons ry .nil))⟩, by rw [rt_non], q2.2⟩
      · exact q2.elim
    · exact q2.elim
theorem RTs.dropLast {K : Zk} {H : Hp} : ∀ {ts : List T} {vs : List V}, RTs K H ts vs → RTs K H ts.dropLast vs.dropLast := fun {ts vs} h => by
  rw [List.dropLast_eq_take, List.dropLast_eq_take, ← h.length]
  exact h.take _
theorem RTs.erase {K : Zk} {H : Hp} : ∀ {ts : List T} {vs : List V} (k : Nat), RTs K H ts vs → RTs K H (ts.eraseIdx k) (vs.eraseIdx k)
  | [], vs, k, h => by rw [rts_nil] at h; subst h; exact .nil
  | t :: ts, vs, 0, h => by rw [rts_cons] at h; obtain ⟨v, r, rfl, _, h2⟩ := h; exact h2
  | t :: ts, vs, k + 1, h => by rw [rts_cons] at h; obtain ⟨v, r, rfl, h1, h2⟩ := h; exact .cons h1 (RTs.erase k h2)
theorem q_pop0 (ho : QE X o to) (hbase : attributeBase o "pop" X.env (eval o X.env) = eval o X.env := by rfl) (hline : (apos.endLine == cpos.line) = true := by rfl) :
    QE X (.Call (.Attribute o "pop" apos) [] [] cpos) (tml0 oPop0 to) :=
  qe_of (pe_bm0 F.plainAttrs_list F.slot_list_pop F.type_list_pop mt_pop ho hbase hline) fun σ H ρ S Q rs re q => LE.mk rs re q fun x S1 v H1 e1 rs1 rx q1 => by
    refine ⟨ty_lst rs1 rx q1.1, ?_⟩
    have q2 := q1.2
    unfold oPop0 at q2
    split at q2
    · rw [rt_adr] at rx
      split at q2
      · rename_i xs ex
        split at q2
        · rename_i y ey
          obtain ⟨ws, h1, h2⟩ := rs1 _ _ ex
          obtain ⟨u, hu, ru⟩ := h2.get ey
          rw [h2.length] at hu
          exact ⟨_, ws, u, rx, rfl, h1, hu, y, _, e1.trans (.lset h1), rs1.put (m := .lst xs.dropLast) (.lset h1) ⟨_, upd_same, RTs.ext (.lset h1) _ h2.dropLast⟩, RT.ext (.lset h1) _ ru, q2⟩
        · exact q2.elim
      · exact q2.elim
    · exact q2.elim
theorem q_popAt (ho : QE X o to) (he : QE X e te) (hbase : attributeBase o "pop" X.env (eval o X.env) = eval o X.env := by rfl)
    (hfew : ((backTo cpos (starEach [e] X.env)).all (fun x => !x.1) && (backToKw cpos (keywordEach [] X.env)).all (fun x => x.1.isSome)
      && decide ([e].length + ([] : List Keyword).length + (if ([] : List Keyword).isEmpty then 0 else 1) < 30)) = true := by rfl)
    (hline : (apos.endLine == cpos.line) = true := by rfl) (hs : starEach [e] X.env = (false, eval e X.env) :: starEach [] X.env := by rfl) (hplain : (backTo cpos (starEach [] X.env)).any (·.1) = false := by rfl) :
    QE X (.Call (.Attribute o "pop" apos) [e] [] cpos) (tml oPopAt to te) :=
  qe_of (pe_bm F.plainAttrs_list F.slot_list_pop F.type_list_pop mt_popAt ho (pa_cons he pa_nil hs) hbase hfew hline hs hplain) fun σ H ρ S Q rs re q => LE.mk rs re q fun x S1 v H1 e1 rs1 rx q1 => by
    refine ⟨ty_lst rs1 rx q1.1, LE.mk rs1 (re.ext e1) q1.2 fun y S2 u H2 e2 rs2 ry q2 => ?_⟩
    unfold oPopAt at q2
    split at q2
    · rw [rt_adr] at rx
      rw [rt_int] at ry
      split at q2
      · rename_i xs ex
        obtain ⟨hb, q2⟩ := q2
        split at q2
        · rename_i k ek
          split at q2
          · rename_i z ez
            obtain ⟨ws, h1, h2⟩ := rs2 _ _ ex
            obtain ⟨wz, hz, rz⟩ := h2.get ez
            exact ⟨_, ws, _, k, wz, rx, by rw [ry], h1, hb.1, hb.2, by rw [← h2.length]; exact ek, hz, z, _, (e1.trans e2).trans (.lset h1), rs2.put (m := .lst (xs.eraseIdx k)) (.lset h1) ⟨_, upd_same, RTs.ext (.lset h1) _ (h2.erase k)⟩, RT.ext (.lset h1) _ rz, q2⟩
          · exact q2.elim
        · exact q2.elim
      · exact q2.elim
    · exact q2.elim
end
/-! ''.join(list of texts) -/
def strsT : List T → Option (List Str)
  | [] => some []
  | .str i :: r => (strsT r).map (i :: ·)
  | _ :: _ => none
theorem strsT_of : ∀ {ts : List T} {ns : List Str}, strsT ts = some ns → ts = ns.map T.str
  | [], ns, e => by cases e; rfl
  | .str i :: r, ns, e => by
    have e : (strsT r).map (i :: ·) = some ns := e
    cases e1 : strsT r with
    | none => rw [e1] at e; cases e
    | some l => rw [e1] at e; cases e; rw [strsT_of e1]; rfl
theorem strsT_map (ns : List Str) : strsT (ns.map T.str) = some ns := by
  induction ns with
  | nil => rfl
  | cons n ns ih => show (strsT (ns.map T.str)).map (n :: ·) = _; rw [ih]; rfl
def oJoin : O2 := fun x y S Q => match x with
  | .str z => (match (match y with | .tup xs => strsT xs | .adr a => (lstAt S a).bind strsT | _ => none) with
    | some ys => (ys.map (·.length)).sum + ys.length * z.length ≤ 16777216 ∧ Q (.str (Txt.join z ys)) S
    | none => False)
  | _ => False
def isStrT : T → Prop | .str _ => True | _ => False
def tmj (o : O2) (ta : TTE) (tb : TTE) : TTE := fun ρ S Q => ta ρ S fun x S1 => isStrT x ∧ tb ρ S1 fun y S2 => o x y S2 Q
section
variable {X : Cx} {o e : Expr} {to te : TTE} {apos pos : Pos}
theorem q_join (ho : QE X o to) (he : QE X e te) (hs : starEach [e] X.env = [(false, eval e X.env)] := by rfl) (hbase : attributeBase o "join" X.env (eval o X.env) = eval o X.env := by rfl) (hline : (apos.endLine == pos.line) = true := by rfl) :
    QE X (.Call (.Attribute o "join" apos) [e] [] pos) (tmj oJoin to te) :=
  qe_of (pe_join ho he hs hbase hline) fun σ H ρ S Q rs re q => LE.mk rs re q fun x S1 v H1 e1 rs1 rx q1 => by
    refine ⟨?_, LE.mk rs1 (re.ext e1) q1.2 fun y S2 u H2 e2 rs2 ry q2 => ?_⟩
    · cases x with
      | str z => rw [rt_str] at rx; exact ⟨_, rx⟩
      | _ => exact q1.1.elim
    unfold oJoin at q2
    split at q2
    · rw [rt_str] at rx
      split at q2
      · rename_i ys ey
        have : ∃ p, u = .ref p ∧ (SqL X.K H2 p (ys.map V.str) ∨ SqT X.K H2 p (ys.map V.str)) := by
          split at ey
          · rw [rt_tup] at ry
            obtain ⟨a, ws, rfl, h1, h2⟩ := ry
            rw [strsT_of ey] at h2
            rw [h2.strs] at h1
            exact ⟨a, rfl, .inr h1.sqT⟩
          · rw [rt_adr] at ry
            obtain ⟨xs, f1, f2⟩ := Option.bind_eq_some_iff.mp ey
            obtain ⟨ws, h1, h2⟩ := rs2.list f1
            rw [strsT_of f2] at h2
            rw [h2.strs] at h1
            exact ⟨_, ry, .inl h1⟩
          · cases ey
        obtain ⟨p, rfl, h⟩ := this
        exact ⟨_, p, ys, rx, rfl, h, q2.1, .here (e1.trans e2) rs2 (by rw [rt_str]) q2.2⟩
      · exact q2.elim
    · exact q2.elim
end
end TL
set_option Elab.async false
set_option linter.all false
set_option maxRecDepth 100000
set_option maxHeartbeats 1000000
/-! TL8: dict(pairs), sorted(dict), isinstance, repr over T. -/
namespace TL
open PySem PySem.Spec PyProof.Rows L2

/-- a rule that is told by its reading over T -/
def rT (K : Zk) (o : OA) : List V → Hp → VK → Prop := fun vs H R => ∃ ts S Q, RelS K S H ∧ RTs K H ts vs ∧ o ts S Q ∧ ∀ v H', WE K H Q v H' → R v H'
theorem oa_T {K : Zk} {o : OA} : OpA K (rT K o) o := fun ts vs S H H0 Q R e rs rr q k => ⟨ts, S, Q, rs, rr, q, fun v H' w => k v H' (w.ext e)⟩

/-! dict(pairs) -/
def pairsT : List T → Option (List (T × T))
  | [] => some []
  | .tup [x, y] :: r => (pairsT r).map ((x, y) :: ·)
  | _ => none
theorem pairsT_cons {z : T} {xs : List T} {prs : List (T × T)} (e : pairsT (z :: xs) = some prs) : ∃ x y prs', z = .tup [x, y] ∧ pairsT xs = some prs' ∧ prs = (x, y) :: prs' := by
  match z, e with
  | .tup [x, y], e =>
    have e : (pairsT xs).map ((x, y) :: ·) = some prs := e
    obtain ⟨p, h1, h2⟩ := Option.map_eq_some_iff.mp e
    exact ⟨x, y, p, rfl, h1, h2.symm⟩
  | .tup [], e => cases e
  | .tup [_], e => cases e
  | .tup (_ :: _ :: _ :: _), e => cases e
  | .non, e => cases e
  | .bl _, e => cases e
  | .int _, e => cases e
  | .str _, e => cases e
  | .fl _, e => cases e
  | .adr _, e => cases e
def keysX : List (T × T) → Option (List (List Key × T))
  | [] => some []
  | (.tup xs, y) :: r => (keysT xs).bind fun k => (keysX r).map ((k, y) :: ·)
  | _ => none
def oDict : OA := fun ts S Q => match ts with
  | [x] => (match (sqT? S x).bind (fun p => pairsT p.2) with
    | some prs => prs.length ≤ sizeLine ∧ ((∃ kvs, keysOf prs = some kvs ∧ NewO S (.dk (mergeT [] kvs)) Q) ∨
        (∃ kvs, keysX prs = some kvs ∧ NewO S (.dx (mergeT [] kvs)) Q))
    | none => False)
  | _ => False
section
variable {X : Cx} {pins : List (Addr × Obj)} {σ : L2.St} {H : Hp} {s : Shared}
theorem plain_of (I : Inv X pins σ H s) {S : Sto} (rs : RelS (zx X) S H) {x : T} {v : V} (r : RT (zx X) H x v) {k : Bool} {xs : List T} (e : sqT? S x = some (k, xs)) :
    ∃ a vs its, v = .ref a ∧ RTs (zx X) H xs vs ∧ Vals vs its ∧ vs.length ≤ sizeLine ∧ ∃ Ty : String, (Ty = "tuple" ∨ Ty = "list") ∧ PlainSeq Ty s.heap a its.toArray := by
  cases x with
  | tup ys =>
    cases e
    rw [rt_tup] at r
    obtain ⟨a, vs, h1, h2, h3⟩ := r
    obtain ⟨its, rv, p, hz⟩ := I.tuple h2.sqT
    refine ⟨a, vs, its, h1, h3, rv, hz, "tuple", .inl rfl, ?_⟩
    obtain ⟨o, ho, hc, n, hd⟩ := p
    rcases h2 with ⟨ob, hH, hn⟩ | ⟨ob, its', n', hk, _, hn, _⟩
    · obtain ⟨e1, _⟩ := (show ObjOk X.prog X.w H s.heap a (.frz ob (.tup vs)) from I.hok a _ hH)
      rw [ho] at e1; cases e1
      exact ⟨o, n, ho, hc, hn, hd⟩
    · have e1 := I.kIn a ob hk
      rw [ho] at e1; cases e1
      exact ⟨o, n, ho, hc, hn, hd⟩
  | fl ys =>
    cases e
    rw [rt_fl] at r
    obtain ⟨a, vs, h1, h2, h3⟩ := r
    obtain ⟨its, rv, ⟨o, n, p1, p2, p3, p4⟩, hz⟩ := I.list h2.sqL
    exact ⟨a, vs, its, h1, h3, rv, hz, "list", .inr rfl, o, n, p1, p2, p3, p4⟩
  | adr a =>
    rw [rt_adr] at r
    have e : (lstAt S a).map (fun xs => (false, xs)) = some (k, xs) := e
    cases e1 : lstAt S a with
    | none => rw [e1] at e; cases e
    | some ys =>
      rw [e1] at e; cases e
      obtain ⟨vs, h1, h2⟩ := rs.list e1
      obtain ⟨its, rv, ⟨o, n, p1, p2, p3, p4⟩, hz⟩ := I.list h1
      exact ⟨a, vs, its, r, h2, rv, hz, "list", .inr rfl, o, n, p1, p2, p3, p4⟩
  | _ => cases e
abbrev RPV (K : Zk) (H : Hp) : List (T × T) → List (Value × Value) → Prop := Paired fun p q => (∃ v, RelV v q.1 ∧ RT K H p.1 v) ∧ ∃ v, RelV v q.2 ∧ RT K H p.2 v
theorem pairs_at (I : Inv X pins σ H s) : ∀ {xs : List T} {prs : List (T × T)} {vs : List V} {us : List Value}, pairsT xs = some prs → RTs (zx X) H xs vs → Vals vs us →
    ∃ (as : List Addr) (ps : List (Value × Value)), us = as.map Value.ref ∧ as.length = ps.length ∧ RPV (zx X) H prs ps ∧ ∀ (j : Nat) (q : Value × Value), ps[j]? = some q → ∃ b, as[j]? = some b ∧ PairAt s.heap b q.1 q.2
  | [], prs, vs, us, e, h, r => by
    cases e
    rw [rts_nil] at h
    subst h
    cases r
    exact ⟨[], [], rfl, rfl, .nil, fun j q e => by simp at e⟩
  | z :: xs, prs, vs, us, e, h, r => by
    obtain ⟨x', y', prs', rfl, e1, rfl⟩ := pairsT_cons e
    rw [rts_cons] at h
    obtain ⟨v, vs', rfl, h1, h2⟩ := h
    rw [rt_tup] at h1
    obtain ⟨a, ws, rfl, g1, g2⟩ := h1
    obtain ⟨w1, w2, rfl, k1, k2⟩ := g2.two'
    cases r with
    | cons ra rb =>
      cases ra
      obtain ⟨its, rv, p, _⟩ := I.tuple g1.sqT
      obtain ⟨u1, u2, ei, ru1, ru2⟩ := vals2 rv
      subst ei
      obtain ⟨as, ps, f1, f2, f3, f4⟩ := pairs_at I e1 h2 rb
      refine ⟨a :: as, (u1, u2) :: ps, by rw [f1]; rfl, by rw [List.length_cons, List.length_cons, f2], .cons ⟨⟨w1, ru1, k1⟩, w2, ru2, k2⟩ f3, fun j q e => ?_⟩
      cases j with
      | zero => cases e; exact ⟨a, rfl, .inl p⟩
      | succ j => simpa using f4 j q (by simpa using e)
theorem RPV.length {K : Zk} {H : Hp} : ∀ {prs : List (T × T)} {ps : List (Value × Value)}, RPV K H prs ps → prs.length = ps.length
  | _, _, .nil => rfl
  | _, _, .cons _ t => by rw [List.length_cons, List.length_cons, RPV.length t]
theorem keys_k {K : Zk} {H : Hp} {P : Program} {w : World} : ∀ {prs : List (T × T)} {ps : List (Value × Value)} {kvs : List (Key × T)}, RPV K H prs ps → keysOf prs = some kvs →
    ∃ (kv : List (Key × V)) (kw : List (Key × Value)), RKs K H kvs kv ∧ KV kv kw ∧ kw.length = ps.length ∧ ∀ (i : Nat) (q : Value × Value), ps[i]? = some q → ∃ k, kw[i]? = some (k, q.2) ∧ (mixKind P w).is k q.1 = true
  | _, _, kvs, .nil, e => by cases e; exact ⟨[], [], .nil, .nil, rfl, fun i q e => by simp at e⟩
  | (x, y) :: prs, q :: ps, kvs, .cons h t, e => by
    unfold keysOf at e
    cases e1 : keyT x with
    | none => rw [e1] at e; cases e
    | some k =>
      rw [e1] at e
      cases e2 : keysOf prs with
      | none => rw [e2] at e; cases e
      | some ks =>
        rw [e2] at e
        cases e
        obtain ⟨kv, kw, a1, a2, a3, a4⟩ := keys_k (P := P) (w := w) t e2
        obtain ⟨⟨v1, r1, t1⟩, v2, r2, t2⟩ := h
        refine ⟨(k, v2) :: kv, (k, q.2) :: kw, .cons ⟨rfl, t2⟩ a1, .cons ⟨rfl, r2⟩ a2, by rw [List.length_cons, List.length_cons, a3], fun i q' e => ?_⟩
        cases i with
        | zero => cases e; exact ⟨k, rfl, kV_is (by rw [← keyT_of t1 e1]; exact r1)⟩
        | succ i => simpa using a4 i q' (by simpa using e)
theorem keys_x {K : Zk} {H : Hp} : ∀ {prs : List (T × T)} {ps : List (Value × Value)} {kvs : List (List Key × T)}, RPV K H prs ps → keysX prs = some kvs →
    ∃ xs : List (List Key × Addr × Value), RXs K H kvs xs ∧ xs.length = ps.length ∧ ∀ (i : Nat) (q : Value × Value), ps[i]? = some q → ∃ k b, xs[i]? = some (k, b, q.2) ∧ q.1 = .ref b
  | _, _, kvs, .nil, e => by cases e; exact ⟨[], .nil, rfl, fun i q e => by simp at e⟩
  | (x, y) :: prs, q :: ps, kvs, .cons h t, e => by
    match x, h, e with
    | .tup xs, h, e =>
      have e : ((keysT xs).bind fun k => (keysX prs).map ((k, y) :: ·)) = some kvs := e
      cases e1 : keysT xs with
      | none => rw [e1] at e; cases e
      | some k =>
        rw [e1] at e
        cases e2 : keysX prs with
        | none => rw [e2] at e; cases e
        | some ks =>
          rw [e2] at e
          cases e
          obtain ⟨xs', a1, a3, a4⟩ := keys_x t e2
          obtain ⟨⟨v1, r1, t1⟩, v2, r2, t2⟩ := h
          rw [rt_tup] at t1
          obtain ⟨b, ws, rfl, g1, g2⟩ := t1
          refine ⟨(k, b, q.2) :: xs', .cons ⟨rfl, by rw [← keysT_of g2 e1]; exact g1.sqT, v2, r2, t2⟩ a1, by rw [List.length_cons, List.length_cons, a3], fun i q' e => ?_⟩
          cases i with
          | zero => cases e; exact ⟨k, b, rfl, r1⟩
          | succ i => simpa using a4 i q' (by simpa using e)
    | .non, _, e => cases e
    | .bl _, _, e => cases e
    | .int _, _, e => cases e
    | .str _, _, e => cases e
    | .fl _, _, e => cases e
    | .adr _, _, e => cases e
theorem RXs.atKey {K : Zk} {H : Hp} : ∀ {kvs : List (List Key × T)} {xs : List (List Key × Addr × Value)} (k : List Key), RXs K H kvs xs → (kvs.any fun kv => decide (kv.1 = k)) = (atKey xs k).isSome
  | _, _, k, .nil => rfl
  | p :: ps, q :: qs, k, .cons h t => by
    rw [List.any_cons, RXs.atKey k t]
    unfold PySem.atKey
    rw [List.find?_cons]
    by_cases e : q.1 = k
    · simp [h.1, e]
    · simp [h.1, e]
theorem RXs.snoc {K : Zk} {H : Hp} : ∀ {kvs : List (List Key × T)} {xs : List (List Key × Addr × Value)} {p : List Key × T} {q : List Key × Addr × Value}, RXs K H kvs xs → (p.1 = q.1 ∧ SqT K.K H q.2.1 (p.1.map kV) ∧ ∃ v, RelV v q.2.2 ∧ RT K H p.2 v) → RXs K H (kvs ++ [p]) (xs ++ [q])
  | _, _, _, _, .nil, h => .cons h .nil
  | _, _, _, _, .cons r t, h => .cons r (RXs.snoc t h)
theorem RXs.repl {K : Zk} {H : Hp} : ∀ {kvs : List (List Key × T)} {xs : List (List Key × Addr × Value)} (k : List Key) {t : T} {u : Value}, RXs K H kvs xs → (∃ v, RelV v u ∧ RT K H t v) → RXs K H (kvs.map fun p => if p.1 = k then (p.1, t) else p) (xs.map (putAt k u))
  | _, _, k, t, u, .nil, _ => .nil
  | p :: ps, q :: qs, k, t, u, .cons h r, z => by
    rw [List.map_cons, List.map_cons]
    refine .cons ?_ (RXs.repl k r z)
    unfold putAt
    by_cases e : p.1 = k
    · rw [if_pos e, if_pos (h.1.symm.trans e)]; exact ⟨h.1, h.2.1, z⟩
    · rw [if_neg e, if_neg (fun z => e (h.1.trans z))]; exact h
theorem RXs.put {K : Zk} {H : Hp} {kvs : List (List Key × T)} {xs : List (List Key × Addr × Value)} (k : List Key) {a : Addr} {t : T} {u : Value} (r : RXs K H kvs xs) (hk : SqT K.K H a (k.map kV)) (z : ∃ v, RelV v u ∧ RT K H t v) :
    RXs K H (putT kvs k t) (storedH xs k a u) := by
  unfold putT storedH
  rw [r.atKey k]
  split
  · exact r.repl k z
  · exact r.snoc ⟨rfl, hk, z⟩
theorem RXs.merge {K : Zk} {H : Hp} : ∀ {more : List (List Key × T)} {mx : List (List Key × Addr × Value)} {kvs : List (List Key × T)} {xs : List (List Key × Addr × Value)}, RXs K H more mx → RXs K H kvs xs → RXs K H (mergeT kvs more) (storedAllH xs mx)
  | _, _, _, _, .nil, r => r
  | p :: ps, q :: qs, kvs, xs, .cons h t, r => by
    show RXs K H (mergeT (putT kvs p.1 p.2) ps) (storedAllH (storedH xs q.1 q.2.1 q.2.2) qs)
    rw [← h.1]
    exact RXs.merge t (r.put p.1 h.2.1 h.2.2)
theorem RXs.mem {K : Zk} {H : Hp} : ∀ {kvs : List (List Key × T)} {xs : List (List Key × Addr × Value)}, RXs K H kvs xs → ∀ q ∈ xs, SqT K.K H q.2.1 (q.1.map kV)
  | _, _, .nil => fun q h => nomatch h
  | p :: ps, q :: qs, .cons h t => fun x hx => by
    rcases List.mem_cons.mp hx with e | hx
    · subst e; rw [← h.1]; exact h.2.1
    · exact RXs.mem t x hx
theorem call_dictT (hc : X.calm = true) (hu : X.A.units + 200 < cLine) : CallR X (.type "dict") (rT (zx X) oDict) := by
  intro pins s σ H xs us R I r ⟨ts, S, Q, rs, rr, q, m⟩
  unfold oDict at q
  split at q
  · rename_i x
    split at q
    · rename_i prs ep
      obtain ⟨⟨k, ys⟩, e1, e2⟩ := Option.bind_eq_some_iff.mp ep
      obtain ⟨v, rfl, rx⟩ := rr.one'
      obtain ⟨a, vs, its, rfl, rt, rv, hz, Ty, hTy, pl⟩ := plain_of I rs rx e1
      obtain ⟨u, rfl, ru⟩ := vals1 r
      cases ru
      obtain ⟨as, ps, f1, f2, f3, f4⟩ := pairs_at I e2 rt rv
      obtain ⟨hpl, q⟩ := q
      have hn : ps.length ≤ sizeLine := by rw [← f3.length]; exact hpl
      have items : PairItems s.heap its.toArray (fun j => as.getD j 0) ps := by
        refine ⟨by rw [List.size_toArray, f1, List.length_map, f2], fun j k v e => ?_⟩
        obtain ⟨b, hb, hp⟩ := f4 j (k, v) e
        refine ⟨?_, ?_⟩
        · rw [f1]; simp [List.getD_eq_getElem?_getD, hb]
        · show PairAt s.heap (as.getD j 0) k v
          rw [show as.getD j 0 = b by simp [List.getD_eq_getElem?_getD, hb]]; exact hp
      have hm : (s.heap.objs.size == sysModules) = false := beq_eq_false_iff_ne.mpr (Nat.ne_of_gt I.big)
      have P : PairArg X.prog X.w Ty a (a :: (List.range ps.length).map (fun j => as.getD j 0)) [] ps.length (PairRel ps) (fun h => PlainSeq Ty h a its.toArray ∧ PairItems h its.toArray (fun j => as.getD j 0) ps) := by
        rcases hTy with rfl | rfl
        · exact PairArg.tuple a its.toArray _ ps
        · exact PairArg.list a its.toArray _ ps
      rcases q with ⟨kvs, ek, q⟩ | ⟨kvs, ek, q⟩
      · obtain ⟨kv, kw, a1, a2, a3, a4⟩ := keys_k (P := X.prog) (w := X.w) f3 ek
        refine PySem.call_dict_pairs (knd := mixKind X.prog X.w) (kvs := kw) P (I.ok.hd hc) ⟨pl, items⟩ ⟨a3, fun i key v e => a4 i (key, v) e⟩ hn fun h' tk hd' hk => ?_
        have hf : H s.heap.objs.size = none := I.hok.fresh (Nat.le_refl _)
        have hlen : (mergeK [] kv).length ≤ sizeLine := by
          refine Nat.le_trans (length_mergeK kv []) ?_
          rw [List.length_nil, Nat.zero_add, a2.length, a3]
          exact hn
        refine ⟨.ref s.heap.objs.size, upd H s.heap.objs.size (.dK (mergeK [] kv)), I.laid (t' := tk) (fun b o e => hk b o (by simp) e) (Nat.le_refl _) (show ObjOk X.prog X.w _ _ _ (.dK (mergeK [] kv)) from ⟨hlen, hm, merged [] kw, KV.merge a2 .nil, hd'⟩), rfl, m _ _ ?_⟩
        exact .laid (m := .dk (mergeT [] kvs)) (.refl _) rs hf ⟨_, upd_same, (a1.ext (.new hf)).merge .nil⟩ (q.at (rs.none_of hf))
      · obtain ⟨xs, a1, a3, a4⟩ := keys_x f3 ek
        have kst : KeysStay (tupleKind (mixKind X.prog X.w)) s.heap s.heap.objs.size [] xs := fun h' hk x hx => by
          obtain ⟨o, items, n, g1, g2, g3, g4⟩ := key_ofQ I (a1.mem x hx)
          exact ⟨o, items, n, hk _ _ (Nat.ne_of_lt (Heap.lt_size g1)) (by simp) g1, g2, g3, g4⟩
        refine PySem.call_dict_pairsH (knd := tupleKind (mixKind X.prog X.w)) (ps := xs) P (I.ok.hd hc) (show X.A.in1.in1.units < cLine by show X.A.units + 1 + 1 < cLine; omega) ⟨pl, items⟩ ⟨a3, fun i key v e => a4 i (key, v) e⟩ kst hn fun h' tk hd' hk => ?_
        have hf : H s.heap.objs.size = none := I.hok.fresh (Nat.le_refl _)
        obtain ⟨o, es, ep', d1, d2, d3, d4, _, d6⟩ := hd'
        have hlen : (storedAllH [] xs).length ≤ sizeLine := by
          refine Nat.le_trans (storedAllH_length xs []) ?_
          rw [List.length_nil, Nat.zero_add, a3]
          exact hn
        refine ⟨.ref s.heap.objs.size, upd H s.heap.objs.size (.ext (DxAt (zx X) s.heap.objs.size (storedAllH [] xs))), I.laid (t' := tk) (fun b o e => hk b o (by simp) e) (Nat.le_refl _) ?_, rfl, m _ _ ?_⟩
        · refine ⟨⟨hm, hlen, o, es, ep', d1, d2, d3, d4, d6⟩, ⟨o, d1⟩, fun h1 h2 ⟨b1, b2, o', es', ep'', c1, c2⟩ k => ⟨b1, b2, o', es', ep'', k o' c1, c2⟩⟩
        · exact .laid (m := .dx (mergeT [] kvs)) (.refl _) rs hf ⟨_, upd_same, (a1.ext (.new hf)).merge .nil⟩ (q.at (rs.none_of hf))
    · exact q.elim
  · exact q.elim
variable {p pos p2 : Pos} {e : Expr} {es : List Expr} {t : TTA} {te : TTE}
theorem q_dict (hc : X.calm = true) (hu : X.A.units + 200 < cLine) (hg : Gl X "dict") (hm : X.mg "dict" = none) (ha : QA X (e :: es) t) (he : starEach (e :: es) X.env = (false, eval e X.env) :: starEach es X.env := by rfl) (hpl : (backTo pos (starEach es X.env)).any (·.1) = false := by rfl) :
    QE X (.Call (.Name "dict" p) (e :: es) [] pos) (tbi oDict t) := q_ty (call_dictT hc hu) oa_T hg hm (by decide +kernel) ha (by decide) (by decide) he hpl
end
/-! sorted(d) -/
def keyStrs : List Key → Option (List Str)
  | [] => some []
  | .inr x :: r => (keyStrs r).map (x :: ·)
  | _ => none
theorem keyStrs_of : ∀ {ks : List Key} {xs : List Str}, keyStrs ks = some xs → ks = xs.map Sum.inr
  | [], _, e => by cases e; rfl
  | .inr x :: r, xs, e => by
    have e : (keyStrs r).map (x :: ·) = some xs := e
    cases e1 : keyStrs r with
    | none => rw [e1] at e; cases e
    | some l => rw [e1] at e; cases e; rw [keyStrs_of e1]; rfl
  | .inl _ :: _, _, e => by cases e
def oSorted : OA := fun ts S Q => match ts with
  | [.adr a] => (match S a with
    | some (.dk kvs) => (match keyStrs (kvs.map (·.1)) with
      | some ks => ks.length < 64 ∧ ∀ ys, ys.Perm ks → sortedS ys = true → NewO S (.lst (ys.map T.str)) Q
      | none => False)
    | _ => False)
  | _ => False
section
variable {X : Cx} {p pos p2 : Pos} {e : Expr} {es : List Expr} {t : TTA} {te : TTE}
theorem RKs.keys {κ : Type} {K : Zk} {H : Hp} : ∀ {kvs : List (κ × T)} {kv : List (κ × V)}, RKs K H kvs kv → kvs.map (·.1) = kv.map (·.1)
  | _, _, .nil => rfl
  | _, _, .cons h t => by rw [List.map_cons, List.map_cons, h.1, RKs.keys t]
theorem q_sorted (hc : X.calm = true) (hg : Gl X "sorted") (hm : X.mg "sorted" = none) (ha : QA X (e :: es) t) (he : starEach (e :: es) X.env = (false, eval e X.env) :: starEach es X.env := by rfl) (hpl : (backTo pos (starEach es X.env)).any (·.1) = false := by rfl) :
    QE X (.Call (.Name "sorted" p) (e :: es) [] pos) (tbi oSorted t) := by
  refine q_bi (call_sortedD hc) (fun ts vs S H H0 Q R e rs rr q k => ?_) hg hm (by decide +kernel) ha (by decide) (by decide) he hpl
  unfold oSorted at q
  split at q
  · obtain ⟨v, rfl, h⟩ := rr.one'
    rw [rt_adr] at h
    subst h
    split at q
    · rename_i kvs ex
      split at q
      · rename_i ks ek
        obtain ⟨kv, h1, h2⟩ := rs _ _ ex
        refine ⟨_, kv, ks, rfl, .inl h1, by rw [← h2.keys, keyStrs_of ek], q.1, fun ys p hp hs hH => k _ _ (.lst e rs hH RTs.of_strs ((q.2 ys hp hs).at (rs.none_of hH)))⟩
      · exact q.elim
    · exact q.elim
  · exact q.elim
end
end TL
set_option Elab.async false
set_option linter.all false
set_option maxRecDepth 100000
set_option maxHeartbeats 1000000
/-! TL9: isinstance, repr over T. -/
namespace TL
open PySem PySem.Spec PyProof.Rows L2
def tyT (S : Sto) : T → Option String
  | .non => some "NoneType"
  | .bl _ => some "bool"
  | .int _ => some "int"
  | .str _ => some "str"
  | .tup _ => some "tuple"
  | .fl _ => some "list"
  | .adr a => (match S a with | some (.lst _) => some "list" | some (.dk _) => some "dict" | _ => none)
def isB (t Ty : String) : Bool := t == Ty || (t == "bool" && Ty == "int")
def tisi (Ty : String) (te : TTE) : TTE := fun ρ S Q => te ρ S fun x S1 => match tyT S1 x with
  | some t => Q (.bl (isB t Ty)) S1
  | none => False
/-- the types that we ask for -/
def tyOk (Ty : String) : Prop := ∀ t ∈ (["NoneType", "bool", "int", "str", "tuple", "list", "dict"] : List String), kitB t Ty = some (isB t Ty)
theorem tyOk_tuple : tyOk "tuple" := by intro t h; simp only [List.mem_cons, List.not_mem_nil, or_false] at h; rcases h with rfl | rfl | rfl | rfl | rfl | rfl | rfl <;> decide +kernel
theorem tyOk_int : tyOk "int" := by intro t h; simp only [List.mem_cons, List.not_mem_nil, or_false] at h; rcases h with rfl | rfl | rfl | rfl | rfl | rfl | rfl <;> decide +kernel
theorem tyOk_str : tyOk "str" := by intro t h; simp only [List.mem_cons, List.not_mem_nil, or_false] at h; rcases h with rfl | rfl | rfl | rfl | rfl | rfl | rfl <;> decide +kernel
theorem tyOk_bool : tyOk "bool" := by intro t h; simp only [List.mem_cons, List.not_mem_nil, or_false] at h; rcases h with rfl | rfl | rfl | rfl | rfl | rfl | rfl <;> decide +kernel
theorem tyOk_list : tyOk "list" := by intro t h; simp only [List.mem_cons, List.not_mem_nil, or_false] at h; rcases h with rfl | rfl | rfl | rfl | rfl | rfl | rfl <;> decide +kernel
theorem tyOk_dict : tyOk "dict" := by intro t h; simp only [List.mem_cons, List.not_mem_nil, or_false] at h; rcases h with rfl | rfl | rfl | rfl | rfl | rfl | rfl <;> decide +kernel
section
variable {X : Cx} {p pos p2 : Pos} {e : Expr} {te : TTE}
theorem tyx_of {K : Zk} {S : Sto} {H : Hp} (rs : RelS K S H) : ∀ {x : T} {v : V} {t : String}, RT K H x v → tyT S x = some t → TyX K.K H v (.type t) ∧ t ∈ (["NoneType", "bool", "int", "str", "tuple", "list", "dict"] : List String) := by
  intro x v t r e
  cases x with
  | non => cases e; rw [rt_non] at r; subst r; exact ⟨.base .non, by simp⟩
  | bl b => cases e; rw [rt_bl] at r; subst r; exact ⟨.base (.bl _), by simp⟩
  | int b => cases e; rw [rt_int] at r; subst r; exact ⟨.base (.int _), by simp⟩
  | str b => cases e; rw [rt_str] at r; subst r; exact ⟨.base (.str _), by simp⟩
  | tup xs =>
    cases e
    rw [rt_tup] at r
    obtain ⟨a, vs, rfl, h, _⟩ := r
    rcases h with ⟨o, h, _⟩ | ⟨o, its, n, h1, h2, _⟩
    · exact ⟨.fTuple h, by simp⟩
    · exact ⟨.kTuple h1 h2, by simp⟩
  | fl xs =>
    cases e
    rw [rt_fl] at r
    obtain ⟨a, vs, rfl, h, _⟩ := r
    rcases h with ⟨o, h⟩ | ⟨o, its, n, h1, h2, _⟩
    · exact ⟨.base (.frz h), by simp⟩
    · exact ⟨.kList h1 h2, by simp⟩
  | adr a =>
    rw [rt_adr] at r
    subst r
    have e : (match S a with | some (.lst _) => some "list" | some (.dk _) => some "dict" | _ => none) = some t := e
    split at e
    · rename_i xs ex
      cases e
      obtain ⟨vs, h1, _⟩ := rs _ _ ex
      exact ⟨.base (.lst h1), by simp⟩
    · rename_i xs ex
      cases e
      obtain ⟨vs, h1, _⟩ := rs _ _ ex
      exact ⟨.base (.dK h1), by simp⟩
    · cases e
theorem q_isi {Ty : Str} {Tn : String} (hg : Gl X "isinstance") (hm : X.mg "isinstance" = none) (hgt : Gl X Ty) (hmt : X.mg Ty = none) (hbt : bootBuiltins Ty = some (.type Tn)) (ok : tyOk Tn) (he : QE X e te)
    (hn : Ty ≠ "__name__" := by decide) (hd : (Ty == ("__debug__" : Str)) = false := by decide)
    (hs : starEach (e :: [.Name Ty p2]) X.env = (false, eval e X.env) :: starEach [.Name Ty p2] X.env := by rfl) (hs2 : starEach [.Name Ty p2] X.env = (false, eval (.Name Ty p2) X.env) :: starEach [] X.env := by rfl)
    (hpl : (backTo pos (starEach [.Name Ty p2] X.env)).any (·.1) = false := by rfl) :
    QE X (.Call (.Name "isinstance" p) [e, .Name Ty p2] [] pos) (tisi Tn te) := by
  refine qe_of (pe_callB call_isi hg hm (by decide +kernel) (pa_cons he (pa_cons (pe_bltn (v := .ty Tn) hgt hmt hbt rfl hn hd) pa_nil hs2) hs) (by decide) (by decide) hs hpl) fun σ H ρ S Q rs re q => LE.mk rs re q fun x S1 v H1 e1 rs1 rx q1 => ?_
  split at q1
  · rename_i t et
    obtain ⟨h1, h2⟩ := tyx_of rs1 rx et
    exact ⟨v, .ty Tn, _, _, _, rfl, .ty Tn, h1, kit_ty (ok t h2), .here e1 rs1 (by rw [rt_bl]) q1⟩
  · exact q1.elim
end
/-! repr -/
mutual
def dataT : T → PyData
  | .non => .none
  | .bl b => .bool b
  | .int i => .int i
  | .str x => .str x
  | .tup xs => .tuple (datasT xs)
  | .fl _ => .none
  | .adr _ => .none
def datasT : List T → List PyData
  | [] => []
  | x :: xs => dataT x :: datasT xs
end
theorem dataT_tup {xs : List T} : dataT (.tup xs) = .tuple (datasT xs) := by conv => lhs; unfold dataT
theorem datasT_cons {x : T} {xs : List T} : datasT (x :: xs) = dataT x :: datasT xs := by conv => lhs; unfold datasT
theorem datasT_nil : datasT [] = [] := by unfold datasT; rfl
mutual
theorem data_noDict : ∀ x : T, (dataT x).hasDict = false
  | .non => by simp [dataT, PyData.hasDict]
  | .bl _ => by simp [dataT, PyData.hasDict]
  | .int _ => by simp [dataT, PyData.hasDict]
  | .str _ => by simp [dataT, PyData.hasDict]
  | .fl _ => by simp [dataT, PyData.hasDict]
  | .adr _ => by simp [dataT, PyData.hasDict]
  | .tup xs => by rw [dataT_tup, PyData.hasDict]; exact datas_noDict xs
theorem datas_noDict : ∀ xs : List T, PyData.hasDictAll (datasT xs) = false
  | [] => by rw [datasT_nil, PyData.hasDictAll]
  | x :: xs => by rw [datasT_cons, PyData.hasDictAll, data_noDict x, datas_noDict xs]; rfl
end
section
variable {X : Cx} {pins : List (Addr × Obj)} {σ : L2.St} {H : Hp} {s : Shared}
mutual
theorem reads_T (I : Inv X pins σ H s) : ∀ (x : T) {v : V} {u : Value}, RT (zx X) H x v → RelV v u → x.pur = true → ∃ as, Reads s.heap u (dataT x) as
  | .non, v, u, h, r, _ => by rw [rt_non] at h; subst h; cases r; exact ⟨_, by unfold dataT; exact .none⟩
  | .bl b, v, u, h, r, _ => by rw [rt_bl] at h; subst h; cases r; exact ⟨_, by unfold dataT; exact .bool b⟩
  | .int i, v, u, h, r, _ => by rw [rt_int] at h; subst h; obtain ⟨t, rfl⟩ := r; exact ⟨_, by unfold dataT; exact .int i t⟩
  | .str i, v, u, h, r, _ => by rw [rt_str] at h; subst h; obtain ⟨t, rfl⟩ := r; exact ⟨_, by unfold dataT; exact .str i t⟩
  | .fl _, v, u, h, r, p => by rw [pur_fl] at p; cases p
  | .adr _, v, u, h, r, p => by rw [pur_adr] at p; cases p
  | .tup xs, v, u, h, r, p => by
    rw [rt_tup] at h
    obtain ⟨a, vs, rfl, h1, h2⟩ := h
    cases r
    obtain ⟨its, rv, ⟨o, ho, hc, n, hd⟩, _⟩ := I.tuple h1.sqT
    rw [pur_tup] at p
    obtain ⟨as, ra⟩ := readss_T I xs h2 rv p
    exact ⟨as, by rw [dataT_tup]; exact .tuple ho hc hd (by simpa using ra)⟩
theorem readss_T (I : Inv X pins σ H s) : ∀ (xs : List T) {vs : List V} {us : List Value}, RTs (zx X) H xs vs → Vals vs us → T.purs xs = true → ∃ as, ReadsAll s.heap us (datasT xs) as
  | [], vs, us, h, r, _ => by rw [rts_nil] at h; subst h; cases r; exact ⟨_, by rw [datasT_nil]; exact .nil⟩
  | x :: xs, vs, us, h, r, p => by
    rw [rts_cons] at h
    obtain ⟨v, vs', rfl, h1, h2⟩ := h
    rw [purs_cons, Bool.and_eq_true] at p
    cases r with
    | cons r1 r2 =>
      obtain ⟨as, q1⟩ := reads_T I x h1 r1 p.1
      obtain ⟨bs, q2⟩ := readss_T I xs h2 r2 p.2
      exact ⟨_, by rw [datasT_cons]; exact .cons q1 q2⟩
end
end
def reprT (x : T) : Str := (dataT x).shown
def oRepr : OA := fun ts S Q => match ts with
  | [.tup xs] => T.purs xs = true ∧ (dataT (.tup xs)).showable = true ∧ (dataT (.tup xs)).depth ≤ 100 ∧ (reprT (.tup xs)).length ≤ sizeLine ∧ Q (.str (reprT (.tup xs))) S
  | _ => False
section
variable {X : Cx} {p pos : Pos} {e : Expr} {es : List Expr} {t : TTA}
theorem call_reprT (hgd : X.A.guards = some []) (hu : X.A.units + 200 < cLine) : CallR X (.builtin "repr") (rT (zx X) oRepr) := by
  intro pins s σ H xs us R I r ⟨ts, S, Q, rs, rr, q, m⟩
  unfold oRepr at q
  split at q
  · obtain ⟨v, rfl, h⟩ := rr.one'
    obtain ⟨p1, p2, p3, p4, q⟩ := q
    obtain ⟨u, rfl, ru⟩ := vals1 r
    obtain ⟨as, rd⟩ := reads_T I _ h ru (by rw [pur_tup]; exact p1)
    have h' := h
    rw [rt_tup] at h
    obtain ⟨a, vs, rfl, h1, h2⟩ := h
    cases ru
    refine PySem.repr_of_reads' rd p2 (fun z => by rw [data_noDict] at z; cases z) hgd (by omega) (fun b o e => e) (fun h' u tk hk => ?_) p4
    exact ⟨.str _, H, I.kept hk, ⟨u, rfl⟩, m _ _ (.here (.refl _) rs (by rw [rt_str]; rfl) q)⟩
  · exact q.elim
theorem q_repr (hgd : X.A.guards = some []) (hu : X.A.units + 200 < cLine) (hg : Gl X "repr") (hm : X.mg "repr" = none) (ha : QA X (e :: es) t) (he : starEach (e :: es) X.env = (false, eval e X.env) :: starEach es X.env := by rfl) (hpl : (backTo pos (starEach es X.env)).any (·.1) = false := by rfl) :
    QE X (.Call (.Name "repr" p) (e :: es) [] pos) (tbi oRepr t) := q_bi (call_reprT hgd hu) oa_T hg hm (by decide +kernel) ha (by decide) (by decide) he hpl
end
end TL
set_option Elab.async false
set_option linter.all false
set_option maxRecDepth 100000
set_option maxHeartbeats 1000000
/-! TL10: list(range(n)); functions that may not be called; frames of the store. -/
namespace TL
open PySem PySem.Spec PyProof.Rows L2
theorem RTs.rng {K : Zk} {H : Hp} : ∀ (n : Nat) (lo : Int), RTs K H (rngT lo n) ((List.range n).map fun i : Nat => V.int (lo + (i : Int)))
  | 0, lo => .nil
  | n + 1, lo => by
    rw [List.range_succ_eq_map, List.map_cons, List.map_map]
    refine .cons (by rw [rt_int]; simp) ?_
    have := RTs.rng (K := K) (H := H) n (lo + 1)
    have e : (fun i : Nat => V.int (lo + (i : Int))) ∘ Nat.succ = fun i : Nat => V.int (lo + 1 + (i : Int)) := by
      funext i
      show V.int (lo + ((i + 1 : Nat) : Int)) = _
      congr 1
      omega
    rw [e]
    exact this
section
variable {X : Cx} {e : Expr} {te : TTE} {p p2 pos pos2 : Pos}
theorem q_lstRng1 (hc : X.calm = true) (hg : Gl X "list") (hm : X.mg "list" = none) (hg2 : Gl X "range") (hm2 : X.mg "range" = none) (he : QE X e te)
    (hs : starEach [e] X.env = (false, eval e X.env) :: starEach [] X.env := by rfl)
    (hs2 : starEach [.Call (.Name "range" p2) [e] [] pos2] X.env = (false, eval (.Call (.Name "range" p2) [e] [] pos2) X.env) :: starEach [] X.env := by rfl) :
    QE X (.Call (.Name "list" p) [.Call (.Name "range" p2) [e] [] pos2] [] pos) (tlRng1 te) := by
  refine qe_of (pe_listRg hc hg hm (prg_1 hg2 hm2 he hs) hs2) fun σ H ρ S Q rs re q => LE.mk rs re q fun x S1 v H1 e1 rs1 rx q1 => ?_
  split at q1
  · rename_i n
    rw [rt_int] at rx
    obtain ⟨h0, h4, q1⟩ := q1
    refine ⟨n, rx, ⟨by omega, by omega, by omega, by omega, by rw [Int.sub_zero]; omega⟩, fun l hl => .lst e1 rs1 hl ?_ (q1.at (rs1.none_of hl))⟩
    have := RTs.rng (K := zx X) (H := H1) n.toNat 0
    have e2 : rgV 0 n = (List.range n.toNat).map fun i : Nat => V.int (0 + (i : Int)) := by
      unfold rgV
      simp
    rw [e2]
    exact this
  · exact q1.elim
theorem cal_none {P : Program} {w : World} {K : PySem.W.Frag} {mg : Str → Option Value} {base : Heap} {x : Str} {f : Addr} {fd : FuncData} {ps : List Str} {k : Nat} {sp : TSp} (hm : mg x = some (.ref f)) (kp : PySem.W.keepIn K (.ref f) = true) (hb : Binds K fd ps []) (no : ∀ ts S Q, ¬ sp ts S Q) : Cal P w K mg base k x ps.length sp :=
  ⟨f, fd, ps, rfl, hm, kp, hb, fun A outer s H args us vs Q _ _ _ _ _ _ ⟨ts, S, Q', _, _, q, _⟩ => (no ts S Q' q).elim⟩
end
/-- all that stood stands -/
def Ex (S S' : Sto) : Prop := ∀ a o, S a = some o → S' a = some o
theorem Ex.refl (S : Sto) : Ex S S := fun _ _ h => h
theorem Ex.trans {S S1 S2 : Sto} (a : Ex S S1) (b : Ex S1 S2) : Ex S S2 := fun c o h => b c o (a c o h)
theorem Ex.new {S : Sto} {p : Addr} {o : MO} (h : S p = none) : Ex S (S.set p o) := fun a m e => by
  rw [set_ne (fun z => by rw [z, h] at e; cases e)]; exact e
theorem Ex.none {S S' : Sto} (e : Ex S S') {p : Addr} (h : S' p = none) : S p = none := by
  cases q : S p with
  | none => rfl
  | some o => rw [e p o q] at h; cases h
end TL
set_option Elab.async false
set_option linter.all false
set_option maxRecDepth 100000
set_option maxHeartbeats 1000000
/-! TL11: dicts made on the spot (known), their walks, get; a, b = c, d; enumerate of a text; a dict of the module. -/
namespace TL
open PySem PySem.Spec PyProof.Rows L2
def kT : Key → T | .inl i => .int i | .inr x => .str x
theorem rt_kT {K : Zk} {H : Hp} : ∀ k : Key, RT K H (kT k) (kV k)
  | .inl i => by show RT K H (.int i) _; rw [rt_int]; rfl
  | .inr x => by show RT K H (.str x) _; rw [rt_str]; rfl
/-! dict(pairs), never written -/
def oDictF : OA := fun ts S Q => match ts with
  | [x] => (match (sqT? S x).bind (fun p => pairsT p.2) with
    | some prs => prs.length ≤ sizeLine ∧ (match keysOf prs with | some kvs => NewO S (.fk (mergeT [] kvs)) Q | none => False)
    | none => False)
  | _ => False
section
variable {X : Cx} {pins : List (Addr × Obj)} {σ : L2.St} {H : Hp} {s : Shared}
theorem call_dictF (hc : X.calm = true) : CallR X (.type "dict") (rT (zx X) oDictF) := by
  intro pins s σ H xs us R I r ⟨ts, S, Q, rs, rr, q, m⟩
  unfold oDictF at q
  split at q
  · rename_i x
    split at q
    · rename_i prs ep
      obtain ⟨⟨k, ys⟩, e1, e2⟩ := Option.bind_eq_some_iff.mp ep
      obtain ⟨v, rfl, rx⟩ := rr.one'
      obtain ⟨a, vs, its, rfl, rt, rv, hz, Ty, hTy, pl⟩ := plain_of I rs rx e1
      obtain ⟨u, rfl, ru⟩ := vals1 r
      cases ru
      obtain ⟨as, ps, f1, f2, f3, f4⟩ := pairs_at I e2 rt rv
      obtain ⟨hpl, q⟩ := q
      have hn : ps.length ≤ sizeLine := by rw [← f3.length]; exact hpl
      have items : PairItems s.heap its.toArray (fun j => as.getD j 0) ps := by
        refine ⟨by rw [List.size_toArray, f1, List.length_map, f2], fun j k v e => ?_⟩
        obtain ⟨b, hb, hp⟩ := f4 j (k, v) e
        refine ⟨?_, ?_⟩
        · rw [f1]; simp [List.getD_eq_getElem?_getD, hb]
        · show PairAt s.heap (as.getD j 0) k v
          rw [show as.getD j 0 = b by simp [List.getD_eq_getElem?_getD, hb]]; exact hp
      have hm : (s.heap.objs.size == sysModules) = false := beq_eq_false_iff_ne.mpr (Nat.ne_of_gt I.big)
      have P : PairArg X.prog X.w Ty a (a :: (List.range ps.length).map (fun j => as.getD j 0)) [] ps.length (PairRel ps) (fun h => PlainSeq Ty h a its.toArray ∧ PairItems h its.toArray (fun j => as.getD j 0) ps) := by
        rcases hTy with rfl | rfl
        · exact PairArg.tuple a its.toArray _ ps
        · exact PairArg.list a its.toArray _ ps
      split at q
      · rename_i kvs ek
        obtain ⟨kv, kw, a1, a2, a3, a4⟩ := keys_k (P := X.prog) (w := X.w) f3 ek
        refine PySem.call_dict_pairs (knd := mixKind X.prog X.w) (kvs := kw) P (I.ok.hd hc) ⟨pl, items⟩ ⟨a3, fun i key v e => a4 i (key, v) e⟩ hn fun h' tk hd' hk => ?_
        have hf : H s.heap.objs.size = none := I.hok.fresh (Nat.le_refl _)
        have hlen : (mergeK [] kv).length ≤ sizeLine := by
          refine Nat.le_trans (length_mergeK kv []) ?_
          rw [List.length_nil, Nat.zero_add, a2.length, a3]
          exact hn
        obtain ⟨ob, es, epp, d1, d2⟩ := id hd'
        refine ⟨.ref s.heap.objs.size, upd H s.heap.objs.size (.frz ob (.dK (mergeK [] kv))), I.laid (t' := tk) (fun b o e => hk b o (by simp) e) (Nat.le_refl _) (show ObjOk X.prog X.w _ _ _ (.frz ob (.dK (mergeK [] kv))) from ⟨d1, hlen, hm, merged [] kw, KV.merge a2 .nil, hd'⟩), rfl, m _ _ ?_⟩
        exact .laid (m := .fk (mergeT [] kvs)) (.refl _) rs hf ⟨ob, _, upd_same, (a1.ext (.new hf)).merge .nil⟩ (q.at (rs.none_of hf))
      · exact q.elim
    · exact q.elim
  · exact q.elim
variable {p pos p2 : Pos} {e : Expr} {es : List Expr} {t : TTA} {te : TTE}
theorem q_dictF (hc : X.calm = true) (hg : Gl X "dict") (hm : X.mg "dict" = none) (ha : QA X (e :: es) t) (he : starEach (e :: es) X.env = (false, eval e X.env) :: starEach es X.env := by rfl) (hpl : (backTo pos (starEach es X.env)).any (·.1) = false := by rfl) :
    QE X (.Call (.Name "dict" p) (e :: es) [] pos) (tbi oDictF t) := q_ty (call_dictF hc) oa_T hg hm (by decide +kernel) ha (by decide) (by decide) he hpl
end
/-! a, b = c, d -/
def tsPar (i j : Nat) (ta : TTA) : TTS := fun D ρ S => ta ρ S fun vs S1 => match vs with
  | [v, w] => D.nx ((ρ.set i (some v)).set j (some w)) S1
  | _ => False
theorem s_par {X : Cx} {i j : Nat} {x y : Str} {a b : Expr} {ta : TTA} {pos px py pt : Pos} {kt k2 pt2} (hc : X.calm = true) (hN : X.N.Nodup) (hi : X.N[i]? = some x) (hj : X.N[j]? = some y) (hij : i ≠ j)
    (hx : X.env.scope.names.lookup x = some .local) (hy : X.env.scope.names.lookup y = some .local) (ha : QA X [a, b] ta)
    (hw : swappedStores [.Tuple [.Name x px, .Name y py] kt pt] (.Tuple [a, b] k2 pt2) X.env = pure (some [x, y]))
    (hs : swapsWithSole [.Tuple [.Name x px, .Name y py] kt pt] (.Tuple [a, b] k2 pt2) pos.line X.env = pure false := by rfl) :
    QS X (.Assign [.Tuple [.Name x px, .Name y py] kt pt] (.Tuple [a, b] k2 pt2) pos) (tsPar i j ta) :=
  qs_of (ps_par hc hN hi hj hij hx hy ha hw hs) fun σ H ρ S D rs re q => LA.mk rs re q fun ts S1 vs H1 e1 rs1 rr q1 => by
    split at q1
    · obtain ⟨v, u, rfl, h1, h2⟩ := rr.two'
      exact ⟨v, u, rfl, _, S1, e1, rs1, ((re.ext e1).set h1 i).set h2 j, q1⟩
    · exact q1.elim
/-! for k, v in d.items(), for v in d.values() -/
def ItF (d : Addr) (o : Obj) (kvs : List (Key × V)) : It :=
  ⟨fun i H => H d = some (.frz o (.dK kvs)) ∧ i < kvs.length, fun i H x H' => ∃ T k v ob, kvs[i]? = some (k, v) ∧ x = .ref T ∧ H T = none ∧ ob.dict = none ∧ H' = upd H T (.frz ob (.tup [kV k, v])), fun i H => H d = some (.frz o (.dK kvs)) ∧ kvs.length ≤ i⟩
theorem turn_itemsF {P : Program} {w : World} {K : PySem.W.Frag} {d : Addr} {o : Obj} {es : Array DictEntry} {ep : Nat} {kvs : List (Key × V)} {elts : List Expr} {kk : Nat} {tpos : Pos} (it : Addr) (hod : o.data = .dict es ep) :
    Turn P w K (.Tuple elts kk tpos) (ItF d o kvs) [it] it (fun i h => ∃ ok ov, IsItemIter h it d i kvs.length ep ok ov) where
  mem := by simp
  obj := fun i h st b hb => by
    have e : b = it := by simpa using hb
    subst e
    obtain ⟨ok, ov, e⟩ := st
    exact ⟨_, e, fun v z => nomatch z⟩
  keep := fun i h h' st k => let ⟨ok, ov, e⟩ := st; ⟨ok, ov, k it (by simp) _ e⟩
  item := by
    intro X hP hw hK hc i pins s σ H E I hf st hg
    subst hP hw hK
    obtain ⟨hd, hi⟩ := hg
    obtain ⟨hs, hgd, hx, es', ep', vs, hdt, hsz, kv, hm⟩ := I.frzK hd
    obtain ⟨rfl, rfl⟩ := dict_ep hod hdt
    obtain ⟨⟨k, v⟩, hkv⟩ : ∃ p, kvs[i]? = some p := ⟨kvs[i], List.getElem?_eq_getElem hi⟩
    obtain ⟨u, hu, ru⟩ := kv_get kv hkv
    have hl : kvs.length = vs.length := Paired.length kv
    obtain ⟨ok, ov, he⟩ := st
    rw [hl] at he
    have hlt : it < s.heap.objs.size := Heap.lt_size he
    refine wpAny_pyNext_items_item he hm hu fun key h' hkey ho hT hz hk => ?_
    refine ⟨_, rfl, wpAny_letOwnedTupleGo_items (s := { s with heap := h' }) ho fun h'' he' sb => ?_⟩
    have hT2 : h''.get? s.heap.objs.size = some (tupOb [key, u]) := (sb.2 _ (Nat.ne_of_gt hlt)).trans hT
    have new : ObjOk X.prog X.w (upd H s.heap.objs.size (.frz (tupOb [key, u]) (.tup [kV k, v]))) h'' s.heap.objs.size (.frz (tupOb [key, u]) (.tup [kV k, v])) :=
      frz_ok (by show 2 ≤ sizeLine; decide) (.cons (relV_key (show keyIs k key = true from hkey)) (.cons ru .nil)) hT2
    have I1 : Inv X pins σ (upd H s.heap.objs.size (.frz (tupOb [key, u]) (.tup [kV k, v]))) { s with heap := h'' } :=
      I.turnedNew (t' := s.toks) (ch := [it]) (fun b ob hb e => (sb.2 b (by simpa using hb)).trans (hk b ob (by simpa using hb) e)) hf (Nat.le_refl _) new
    refine ⟨.ref s.heap.objs.size, _, I1, rfl, ⟨_, k, v, _, hkv, rfl, I.hok.fresh (Nat.le_refl _), rfl, rfl⟩, ⟨key, u, ?_⟩, fun b hb => ?_⟩
    · rw [hl]; exact he'
    · have e : b = it := by simpa using hb
      rw [e, upd_ne (Nat.ne_of_lt hlt)]
      exact (hf it (by simp)).1
  done := by
    intro X hP hw hK hc i pins s σ H E I hf st hg
    subst hP hw hK
    obtain ⟨hd, hi⟩ := hg
    obtain ⟨f0, f1, f2, f3, f4, f5⟩ := hf it (by simp)
    obtain ⟨hs, hgd, hx, es', ep', vs, hdt, hsz, kv, hm⟩ := I.frzK hd
    obtain ⟨rfl, rfl⟩ := dict_ep hod hdt
    have hl : kvs.length = vs.length := Paired.length kv
    obtain ⟨ok, ov, he⟩ := st
    rw [hl] at he
    exact wpAny_pyNext_items_end (I.ok.hd hc) he hm (List.getElem?_eq_none (by omega)) fun h' eb => ⟨rfl, I.turned (t' := s.toks) (fun b ob hb e => eb b ob hb e) f0 f1 f3 f4 f5⟩
  self := fun A i s Q E st h => let ⟨_, _, e⟩ := st; PySem.W.kcp_self e h
def tiItems (te : TTE) : TTI := fun ρ S Q => te ρ S fun x S1 => match x with
  | .adr a => (match S1 a with | some (.fk kvs) => Q ⟨kvs.map (fun p => .tup [kT p.1, p.2]), fun S => S a = some (.fk kvs)⟩ S1 | _ => False)
  | _ => False
def tiVals (te : TTE) : TTI := fun ρ S Q => te ρ S fun x S1 => match x with
  | .adr a => (match S1 a with | some (.fk kvs) => Q ⟨kvs.map (·.2), fun S => S a = some (.fk kvs)⟩ S1 | _ => False)
  | _ => False
theorem RKs.get {κ : Type} {K : Zk} {H : Hp} : ∀ {kvs : List (κ × T)} {kv : List (κ × V)} {i : Nat} {p : κ × T}, RKs K H kvs kv → kvs[i]? = some p → ∃ v, kv[i]? = some (p.1, v) ∧ RT K H p.2 v
  | _, _, i, p, .nil, e => by simp at e
  | q :: ps, r :: qs, 0, p, .cons h t, e => by
    have : q = p := by simpa using e
    subst this
    exact ⟨r.2, by simp [h.1], h.2⟩
  | q :: ps, r :: qs, i + 1, p, .cons h t, e => by simpa using RKs.get (i := i) t (by simpa using e)
section
variable {X : Cx} {tg e : Expr} {te : TTE} {apos cpos : Pos}
theorem i_items {elts : List Expr} {kk : Nat} {tpos : Pos} (he : QE X e te) (hbase : attributeBase e "items" X.env (eval e X.env) = eval e X.env := by rfl) (hline : (apos.endLine == cpos.line) = true := by rfl) :
    QI X (.Tuple elts kk tpos) (.Call (.Attribute e "items" apos) [] [] cpos) (tiItems te) := by
  refine ⟨fun pins s σ H R I h => ?_⟩
  obtain ⟨ρ, S, Q', rs, re, q, m⟩ := h
  refine wpAny_Call_method (T := "dict") (id := "dict.items") hbase rfl hline F.plainAttrs_dict F.slot_dict_items F.type_dict_items (thn (he.run pins s σ H _ I (LE.mk (R := WE (zx X) H _) rs re q fun r S' v H' e rs' rr q' => ⟨r, S', e, rs', rr, q'⟩)) fun u s1 ⟨x, H1, I1, rx, r, S1, e1, rs1, rr, q1⟩ => ?_)
  dsimp only at q1
  split at q1
  · rename_i a
    rw [rt_adr] at rr
    subst rr
    obtain rfl : u = Value.ref a := rx
    split at q1
    · rename_i kvsT es
      obtain ⟨o, kvs, hd, hk⟩ := rs1 _ _ es
      obtain ⟨hs, hgd, hx, es, ep, vs, hdt, hsz, kv, hm⟩ := I1.frzK hd
      have hl : kvs.length = vs.length := Paired.length kv
      refine ⟨hm.dictOf.typeIs, hm.dictOf.mapOf.noDict, ?_⟩
      have I2 : Inv X pins σ H1 { s1 with heap := s1.heap.push { cls := .type "dict_items", data := .fields #[.ref a] } } := I1.kept (t' := s1.toks) fun b ob q => Heap.get?_push_of_some _ q
      have fit : Fits (zx X) H1 (ItF a o kvs) ⟨kvsT.map (fun p => .tup [kT p.1, p.2]), fun S => S a = some (.fk kvsT)⟩ := by
        refine ⟨fun i S' H' z rs' ext' live ei => ?_, fun i S' H' rs' ext' live ei => ?_⟩
        · have hd' := ext'.frzs _ _ _ hd
          have ei : (kvsT.map (fun p => T.tup [kT p.1, p.2]))[i]? = some z := ei
          rw [List.getElem?_map] at ei
          cases hp : kvsT[i]? with
          | none => rw [hp] at ei; cases ei
          | some pr =>
            rw [hp] at ei
            cases ei
            obtain ⟨v, hv, rv⟩ := RKs.get (hk.ext ext') hp
            refine ⟨⟨hd', (List.getElem?_eq_some_iff.mp hv).1⟩, fun w H'' yl => ?_⟩
            obtain ⟨T', k, v', ob, g1, rfl, g2, g3, rfl⟩ := yl
            rw [hv] at g1
            cases g1
            refine ⟨.new g2, rs'.new g2, ?_⟩
            rw [rt_tup]
            exact ⟨T', _, rfl, .inl ⟨ob, upd_same, g3⟩, .cons (rt_kT _) (.cons (RT.exti (.new g2) rv) .nil)⟩
        · refine ⟨ext'.frzs _ _ _ hd, ?_⟩
          have := List.getElem?_eq_none_iff.mp ei
          rw [List.length_map, hk.length] at this
          exact this
      have fin : wpAny (model X.prog X.w) X.A (pyIter (.ref s1.heap.objs.size)) (PIE X pins σ (.Tuple elts kk tpos) R) X.xe { s1 with heap := s1.heap.push { cls := .type "dict_items", data := .fields #[.ref a] } } := by
        refine wpAny_pyIter_items (d := a) (knd := mixKind X.prog X.w) ⟨_, Heap.get?_push_size _ rfl, rfl, rfl⟩ (hm.push _) (pi_one (tk := s1.toks) I2 _ (turn_itemsF _ hdt) ⟨.none, .none, ?_⟩ (m _ _ _ _ e1 rs1 fit q1))
        rw [hl]
        exact Heap.get?_push_size _ rfl
      show wpAny _ _ (callWith cpos (.builtin "dict.items") [.ref a] [] []) _ X.xe s1
      exact method_meetsIn F.slot_dict_items F.entry_dict_items rfl (PySem.evalArgs_none ⟨rfl, hm.dictOf.typeIs, F.args_dict_items_1 _, _, meets_dict_items (mixKind X.prog X.w) a hs, ⟨vs, hm.dictOf⟩, fin⟩)
    · exact q1.elim
  · exact q1.elim
theorem i_vals (he : QE X e te) (hbase : attributeBase e "values" X.env (eval e X.env) = eval e X.env := by rfl) (hline : (apos.endLine == cpos.line) = true := by rfl) :
    QI X tg (.Call (.Attribute e "values" apos) [] [] cpos) (tiVals te) :=
  qi_of (pi_values he hbase hline) fun σ H ρ S Q rs re q => LE.mk rs re q fun x S1 v H1 e1 rs1 rx q1 => by
    split at q1
    · rename_i a
      rw [rt_adr] at rx
      split at q1
      · rename_i kvsT es
        obtain ⟨o, kvs, hd, hk⟩ := rs1 _ _ es
        refine ⟨_, o, kvs, rx, hd, _, S1, e1, rs1, ⟨fun i S' H' z rs' ext' live ei => ?_, fun i S' H' rs' ext' live ei => ?_⟩, q1⟩
        · have ei : (kvsT.map (·.2))[i]? = some z := ei
          rw [List.getElem?_map] at ei
          cases hp : kvsT[i]? with
          | none => rw [hp] at ei; cases ei
          | some pr =>
            rw [hp] at ei
            cases ei
            obtain ⟨v, hv, rv⟩ := RKs.get (hk.ext ext') hp
            refine ⟨⟨ext'.frzs _ _ _ hd, (List.getElem?_eq_some_iff.mp hv).1⟩, fun w H'' yl => ?_⟩
            obtain ⟨rfl, k, hk'⟩ := yl
            rw [hv] at hk'
            cases hk'
            exact ⟨.refl _, rs', rv⟩
        · refine ⟨ext'.frzs _ _ _ hd, ?_⟩
          have := List.getElem?_eq_none_iff.mp ei
          rw [List.length_map, hk.length] at this
          exact this
      · exact q1.elim
    · exact q1.elim
end
end TL
set_option Elab.async false
set_option linter.all false
set_option maxRecDepth 100000
set_option maxHeartbeats 1000000
/-! TL12: get, a dict of the module, list(d.values()), enumerate of a text. -/
namespace TL
open PySem PySem.Spec PyProof.Rows L2
def dgk (S : Sto) (a : Addr) (y : T) : Option (Option T) := match S a with
  | some (.dk kvs) => (keyT y).map fun k => valT kvs k
  | some (.fk kvs) => (keyT y).map fun k => valT kvs k
  | _ => none
def isDct (S : Sto) : T → Prop | .adr a => (match S a with | some (.dk _) => True | some (.fk _) => True | _ => False) | _ => False
def tget2 (td ty tx : TTE) : TTE := fun ρ S Q => td ρ S fun x S1 => isDct S1 x ∧ ty ρ S1 fun y S2 => tx ρ S2 fun z S3 => match x with
  | .adr a => (match dgk S3 a y with | some o => Q (o.getD z) S3 | none => False)
  | _ => False
section
variable {X : Cx} {o e f : Expr} {apos cpos : Pos} {td ty tx : TTE}
theorem dgk_of {K : Zk} {S : Sto} {H : Hp} (rs : RelS K S H) {a : Addr} {y : T} {v : V} {o : Option T} (e : dgk S a y = some o) (ry : RT K H y v) : ∃ o', ROp K H o o' ∧ DGet H a v o' := by
  unfold dgk at e
  split at e
  · rename_i kvs e1
    obtain ⟨kv, h1, h2⟩ := rs a _ e1
    cases e2 : keyT y with
    | none => rw [e2] at e; cases e
    | some k =>
      rw [e2] at e
      cases e
      rw [keyT_of ry e2]
      exact ⟨_, h2.val k, DGet.k h1⟩
  · rename_i kvs e1
    obtain ⟨ob, kv, h1, h2⟩ := rs a _ e1
    cases e2 : keyT y with
    | none => rw [e2] at e; cases e
    | some k =>
      rw [e2] at e
      cases e
      rw [keyT_of ry e2]
      exact ⟨_, h2.val k, .inl ⟨kv, k, .inr ⟨ob, h1⟩, rfl, rfl⟩⟩
  · cases e
theorem q_get2 (hu : X.A.units + 200 < cLine) (ho : QE X o td) (he : QE X e ty) (hf : QE X f tx) (m : M2 X o "get" apos e f cpos := by exact ⟨rfl, rfl, rfl, rfl⟩) : QE X (.Call (.Attribute o "get" apos) [e, f] [] cpos) (tget2 td ty tx) :=
  qe_of (pe_dget2 (by omega) ho he hf m) fun σ H ρ S Q rs re q => LE.mk rs re q fun x S1 v H1 e1 rs1 rx q1 => by
    cases x with
    | adr a =>
      rw [rt_adr] at rx
      refine ⟨a, rx, ?_, LE.mk rs1 (re.ext e1) q1.2 fun y S2 u H2 e2 rs2 ry q2 => LE.mk rs2 ((re.ext e1).ext e2) q2 fun z S3 w H3 e3 rs3 rz q3 => ?_⟩
      · have h : (match S1 a with | some (.dk _) => True | some (.fk _) => True | _ => False) := q1.1
        split at h
        · rename_i kvs ex; obtain ⟨kv, h1, _⟩ := rs1 _ _ ex; exact .inl ⟨kv, .inl h1⟩
        · rename_i kvs ex; obtain ⟨ob, kv, h1, _⟩ := rs1 _ _ ex; exact .inl ⟨kv, .inr ⟨ob, h1⟩⟩
        · exact h.elim
      · dsimp only at q3
        split at q3
        · rename_i ot eo
          obtain ⟨ov, h1, h2⟩ := dgk_of rs3 eo (RT.ext e3 _ ry)
          refine ⟨ov, h2, .here ((e1.trans e2).trans e3) rs3 ?_ q3⟩
          cases ot with
          | none => cases ov with
            | none => exact rz
            | some _ => exact h1.elim
          | some t => cases ov with
            | none => exact h1.elim
            | some v' => exact h1
        · exact q3.elim
    | _ => exact q1.1.elim
end
/-! a dict of the module with texts as keys -/
structure KDt (K : Zk) (u : Value) (f : Str → Option T) : Prop where
  ex : ∃ (a : Addr) (es : Array DictEntry) (n : Nat), u = .ref a ∧ K.K.lookup a = some ⟨.type "dict", none, .dict es n, #[]⟩ ∧ PySem.W.KeysLit K.w.params es.toList ∧ ∀ x t, f x = some t → ∃ v, PySem.W.nsIn K.K a x = some (some v) ∧ Glo K v t
def tixK (f : Str → Option T) (te : TTE) : TTE := fun ρ S Q => te ρ S fun x S1 => match x with
  | .str z => (match f z with | some v => Q v S1 | none => False)
  | _ => False
section
variable {X : Cx}
def rIxK (K : Zk) (u : Value) : R2 := fun x y H Q => ∃ a es n z v w, x = .ref a ∧ u = .ref a ∧ y = .str z ∧ K.K.lookup a = some ⟨.type "dict", none, .dict es n, #[]⟩ ∧ PySem.W.KeysLit K.w.params es.toList ∧ PySem.W.nsIn K.K a z = some (some w) ∧ RelV v w ∧ Q v H
theorem ix_K (u : Value) : IxR X (rIxK (zx X) u) := by
  intro value slice pins s σ H x y v w Q I rx ry h hs
  obtain ⟨a, es, n, z, vv, ww, rfl, rfl, rfl, hl, hk, hn, rv, q⟩ := h
  cases rx
  obtain ⟨tk, rfl⟩ := ry
  have hm := PySem.W.mapOf_K (prog := X.prog) I.kIn hl hk
  have hT := hm.typeIs
  unfold subscriptTail
  refine wpAny_bind ?_
  rw [getitemInPython_of_ne hT.not_modules]
  refine wpAny_bind (wpAny_specialOf hT PySem.F.slot_dict_getitem.lookup ?_)
  have fin : wpAny (model X.prog X.w) X.A (subscripted slice false (.ref a) (.str z tk)) (fun r s₃ => wpAny (model X.prog X.w) X.A (letTemporaryGo value (.ref a) r >>= fun _ => pure r) (EP X pins σ Q) X.xe s₃) X.xe s := by
    rw [hs]
    exact wpAny_operating (wpAny_getItem_of (strKind_is X.prog X.w z tk) hm (PySem.W.find_K hl hn) (wpAny_bind (wpAny_letTemporaryGo (wpAny_pure ⟨vv, H, I.tok _, rv, q⟩))))
  first
    | exact wpAny_pure (wpAny_bind fin)
    | exact wpAny_bind (wpAny_pure (wpAny_bind fin))
    | exact wpAny_bind fin
theorem q_ixK {x : Str} {u : Value} {f : Str → Option T} {e : Expr} {te : TTE} {p pos : Pos} (hg : Gl X x) (hm : X.mg x = some u) (D : KDt (zx X) u f) (he : QE X e te) (hs : PlainIx e := by intro _ _; rfl) (hd : (x == ("__debug__" : Str)) = false := by decide) :
    QE X (.Subscript (.Name x p) e pos) (tixK f te) := by
  obtain ⟨a, es, n, rfl, hl, hk, hv⟩ := D.ex
  refine qe_of (pe_ix (ix_K (.ref a)) (pe_glob hg hm (v := .ref a) rfl hd) he hs) fun σ H ρ S Q rs re q => LE.mk rs re q fun y S1 v H1 e1 rs1 ry q1 => ?_
  split at q1
  · rename_i z
    rw [rt_str] at ry
    split at q1
    · rename_i t et
      obtain ⟨w, h1, G⟩ := hv z t et
      obtain ⟨vv, rv, hH⟩ := G.ex
      exact ⟨a, es, n, z, vv, w, rfl, rfl, ry, hl, hk, h1, rv, .here e1 rs1 (hH _) q1⟩
    · exact q1.elim
  · exact q1.elim
end
/-! list(d.values()) -/
def tlVals (te : TTE) : TTE := fun ρ S Q => te ρ S fun x S1 => match x with
  | .adr a => (match S1 a with | some (.fk kvs) => NewO S1 (.lst (kvs.map (·.2))) Q | _ => False)
  | _ => False
theorem vals_snd {kvs : List (Key × V)} {vs : List (Key × Value)} (kv : KV kvs vs) : Vals (kvs.map (·.2)) (vs.map (·.2)) := by
  induction kv with
  | nil => exact .nil
  | cons h _ ih => exact .cons h.2 ih
theorem RKs.snds {K : Zk} {H : Hp} : ∀ {kvs : List (Key × T)} {kv : List (Key × V)}, RKs K H kvs kv → RTs K H (kvs.map (·.2)) (kv.map (·.2))
  | _, _, .nil => .nil
  | _, _, .cons h t => .cons h.2 (RKs.snds t)
section
variable {X : Cx} {e : Expr} {te : TTE} {p pos apos cpos : Pos}
theorem q_lstVals (hc : X.calm = true) (hg : Gl X "list") (hm : X.mg "list" = none) (he : QE X e te) (hbase : attributeBase e "values" X.env (eval e X.env) = eval e X.env := by rfl) (hline : (apos.endLine == cpos.line) = true := by rfl)
    (hs2 : starEach [.Call (.Attribute e "values" apos) [] [] cpos] X.env = (false, eval (.Call (.Attribute e "values" apos) [] [] cpos) X.env) :: starEach [] X.env := by rfl) :
    QE X (.Call (.Name "list" p) [.Call (.Attribute e "values" apos) [] [] cpos] [] pos) (tlVals te) := by
  refine ⟨fun pins s σ H R I h => ?_⟩
  obtain ⟨ρ, S, Q', rs, re, q, m⟩ := h
  refine Call_ (ld_blt I hg hm boot_list (PyProof.Rows.callWith_type1 (args_cons ?_ hs2) hs2 rfl))
  refine wpAny_Call_method (T := "dict") (id := "dict.values") hbase rfl hline F.plainAttrs_dict F.slot_dict_values F.type_dict_values (thn (he.run pins s σ H _ I (LE.mk (R := WE (zx X) H _) rs re q fun r S' v H' e rs' rr q' => ⟨r, S', e, rs', rr, q'⟩)) fun u s1 ⟨x, H1, I1, rx, r, S1, e1, rs1, rr, q1⟩ => ?_)
  dsimp only at q1
  split at q1
  · rename_i a
    rw [rt_adr] at rr
    subst rr
    obtain rfl : u = Value.ref a := rx
    split at q1
    · rename_i kvsT es
      obtain ⟨o, kvs, hd, hk⟩ := rs1 _ _ es
      obtain ⟨hs, hgd, hx, es, ep, vs, hdt, hsz, kv, hm'⟩ := I1.frzK hd
      have hl : kvs.length = vs.length := Paired.length kv
      refine ⟨hm'.dictOf.typeIs, hm'.dictOf.mapOf.noDict, ?_⟩
      have I2 : Inv X pins σ H1 { s1 with heap := s1.heap.push { cls := .type "dict_values", data := .fields #[.ref a] } } := I1.kept (t' := s1.toks) fun b ob q => Heap.get?_push_of_some _ q
      have hsz2 : vs.length ≤ sizeLine := by
        obtain ⟨_, z, _⟩ := (show ObjOk X.prog X.w H1 s1.heap a (.frz o (.dK kvs)) from I1.hok a _ hd)
        rw [← hl]; exact z
      have fin : wpAny (model X.prog X.w) X.A (call (.type "list") [.ref s1.heap.objs.size]) (EP X pins σ R) X.xe { s1 with heap := s1.heap.push { cls := .type "dict_values", data := .fields #[.ref a] } } := by
        refine PySem.W.kdl_call (PySem.W.kdl_values (knd := mixKind X.prog X.w) (kvs := vs) (ep := ep) (r := s1.heap.objs.size) (d := a)) (I2.ok.hd hc) ⟨⟨_, Heap.get?_push_size _ rfl, rfl, rfl⟩, hm'.push _⟩ hsz2 fun h' tk acc c' hk' hS hacc => ?_
        have hfr := I2.hok.fresh (Nat.le_refl _)
        have hvals : acc.toList = vs.map (·.2) := PySem.W.kdl_vals_eq acc.toList (by rw [Array.length_toList]; exact hacc.1) fun j v e => hacc.2 j v (by rw [← Array.getElem?_toList]; exact e)
        refine ⟨.ref _, upd H1 (s1.heap.push { cls := .type "dict_values", data := .fields #[.ref a] }).objs.size (.lst (kvs.map (·.2))), I2.laid (t' := tk) hk' (Nat.le_refl _) (show ObjOk X.prog X.w _ h' _ (.lst (kvs.map (·.2))) from ⟨by rw [List.length_map, hl]; exact hsz2, acc.toList, c', by rw [hvals]; exact vals_snd kv, by rw [Array.toArray_toList]; exact hS⟩), rfl, m _ _ (.lst e1 rs1 hfr hk.snds (q1.at (rs1.none_of hfr)))⟩
      show wpAny _ _ (callWith cpos (.builtin "dict.values") [.ref a] [] []) _ X.xe s1
      exact method_meetsIn F.slot_dict_values F.entry_dict_values rfl (PySem.evalArgs_none ⟨rfl, hm'.dictOf.typeIs, F.args_dict_values_1 _, _, meets_dict_values (mixKind X.prog X.w) a hs, ⟨vs, hm'.dictOf⟩, args_nil fin⟩)
    · exact q1.elim
  · exact q1.elim
end
/-! enumerate(text) -/
def ItS (z : Str) : It :=
  ⟨fun i H => i < z.cps.size, fun i H v H' => ∃ T c ob, z.cps[i]? = some c ∧ v = .ref T ∧ H T = none ∧ ob.dict = none ∧ H' = upd H T (.frz ob (.tup [.int (i : Nat), .str ⟨#[c]⟩])), fun i H => z.cps.size ≤ i⟩
theorem turn_enumS {P : Program} {w : World} {K : PySem.W.Frag} {elts : List Expr} {kk : Nat} {tpos : Pos} {z : Str} {tk : Tok} {e it : Addr} (hne : e ≠ it) :
    Turn P w K (.Tuple elts kk tpos) (ItS z) [e, it] e (fun i h => (∃ old, IsEnum h e it ((i : Nat) : Int) old) ∧ h.IsStrIter it (strIterType z) z tk i ∧ i ≤ z.cps.size) where
  mem := by simp
  obj := fun i h st b hb => by
    obtain ⟨⟨old, he⟩, ⟨o, ho, hc, hd⟩, _⟩ := st
    have e' : b = e ∨ b = it := by simpa using hb
    rcases e' with z | z
    · rw [z]; exact ⟨_, he, fun v q => nomatch q⟩
    · rw [z]; exact ⟨o, ho, fun v q => by rw [hd] at q; cases q⟩
  keep := fun i h h' st k => by
    obtain ⟨⟨old, he⟩, ⟨o, ho, r⟩, hl⟩ := st
    exact ⟨⟨old, k e (by simp) _ he⟩, ⟨o, k it (by simp) _ ho, r⟩, hl⟩
  item := by
    intro X hP hw hK hc i pins s σ H E I hf st hg
    subst hP hw hK
    obtain ⟨⟨old, he⟩, hit, hl⟩ := st
    have hlt : i < z.cps.size := hg
    have hel : e < s.heap.objs.size := Heap.lt_size he
    have hil : it < s.heap.objs.size := by obtain ⟨_, q, _⟩ := hit; exact Heap.lt_size q
    refine wpAny_pyNext_enum_itemD (Draws.text (prog := X.prog) (w := X.w) (A := X.A.in1) (I.ok.hd hc) it z tk) he hit hlt hne (by simp only [List.mem_singleton]; exact hne) fun x h' tk' hP ho hit' hT hsz hk => ?_
    obtain ⟨c, tk2, hcz, rfl⟩ := hP
    refine ⟨_, rfl, wpAny_letOwnedTupleGo_enum (s := { s with heap := h', toks := tk' + 1 }) ho fun h'' he' sb => ?_⟩
    have hT2 : h''.get? s.heap.objs.size = some (tupOb [.int i tk', .str ⟨#[c]⟩ tk2]) := (sb.2 _ (Nat.ne_of_gt hel)).trans hT
    have new : ObjOk X.prog X.w (upd H s.heap.objs.size (.frz (tupOb [.int i tk', .str ⟨#[c]⟩ tk2]) (.tup [.int (i : Nat), .str ⟨#[c]⟩]))) h'' s.heap.objs.size (.frz (tupOb [.int i tk', .str ⟨#[c]⟩ tk2]) (.tup [.int (i : Nat), .str ⟨#[c]⟩])) :=
      frz_ok (by show 2 ≤ sizeLine; decide) (.cons ⟨_, rfl⟩ (.cons ⟨_, rfl⟩ .nil)) hT2
    have I1 : Inv X pins σ (upd H s.heap.objs.size (.frz (tupOb [.int i tk', .str ⟨#[c]⟩ tk2]) (.tup [.int (i : Nat), .str ⟨#[c]⟩]))) { s with heap := h'', toks := tk' + 1 } :=
      I.turnedNew (ch := [e, it]) (fun b ob hb q => (sb.2 b (fun z => hb (by simp [z]))).trans (hk b ob (fun z => hb (by simp [z])) (fun z => hb (by simp [z])) q)) hf (Nat.le_refl _) new
    refine ⟨.ref s.heap.objs.size, _, I1, rfl, ⟨_, c, _, hcz, rfl, I.hok.fresh (Nat.le_refl _), rfl, rfl⟩, ⟨⟨.str ⟨#[c]⟩ tk2, ?_⟩, ?_, hlt⟩, fun b hb => ?_⟩
    · have e1 : ((i + 1 : Nat) : Int) = (i : Int) + 1 := by omega
      rw [e1]; exact he'
    · obtain ⟨o, q, r⟩ := hit'
      exact ⟨o, (sb.2 it (Ne.symm hne)).trans q, r⟩
    · have hb' : b < s.heap.objs.size := by
        have e' : b = e ∨ b = it := by simpa using hb
        rcases e' with z | z
        · rw [z]; exact hel
        · rw [z]; exact hil
      rw [upd_ne (Nat.ne_of_lt hb')]
      exact (hf b hb).1
  done := by
    intro X hP hw hK hc i pins s σ H E I hf st hg
    subst hP hw hK
    obtain ⟨⟨old, he⟩, hit, hl⟩ := st
    have hge : z.cps.size ≤ i := hg
    obtain rfl : i = z.cps.size := by omega
    obtain ⟨f0, f1, f2, f3, f4, f5⟩ := hf it (by simp)
    exact wpAny_pyNext_enum_endD (Draws.text (prog := X.prog) (w := X.w) (A := X.A.in1) (I.ok.hd hc) it z tk) he hit fun h' eb => ⟨rfl, I.turned (t' := s.toks) (fun b o hb q => eb b o hb q) f0 f1 f3 f4 f5⟩
  self := fun A i s Q E st h => let ⟨⟨_, he⟩, _⟩ := st; wpAny_pyIter_enum he h
def enumT : Nat → List Nat → List T
  | _, [] => []
  | k, c :: r => .tup [.int (k : Nat), .str ⟨#[c]⟩] :: enumT (k + 1) r
theorem enumT_get : ∀ (cs : List Nat) (k i : Nat), (enumT k cs)[i]? = (cs[i]?).map fun c => .tup [.int ((k + i : Nat) : Int), .str ⟨#[c]⟩]
  | [], k, i => by simp [enumT]
  | c :: r, k, 0 => by simp [enumT]
  | c :: r, k, i + 1 => by
    rw [enumT, List.getElem?_cons_succ, enumT_get r (k + 1) i, List.getElem?_cons_succ, show k + 1 + i = k + (i + 1) by omega]
def tiEnumS (ta : TTA) : TTI := fun ρ S Q => ta ρ S fun vs S1 => match vs with
  | [.str z] => Q ⟨enumT 0 z.cps.toList, fun _ => True⟩ S1
  | _ => False
theorem i_enumS {X : Cx} {e : Expr} {ta : TTA} {p pos tpos : Pos} {elts : List Expr} {kk : Nat} (hg : Gl X "enumerate") (hm : X.mg "enumerate" = none) (ha : QA X [e] ta) (hs : starEach [e] X.env = [(false, eval e X.env)] := by rfl) :
    QI X (.Tuple elts kk tpos) (.Call (.Name "enumerate" p) [e] [] pos) (tiEnumS ta) := by
  refine ⟨fun pins s σ H R I h => ?_⟩
  obtain ⟨ρ, S, Q', rs, re, q, m⟩ := h
  refine Call_ (ld_blt I hg hm boot_enumerate (PyProof.Rows.callWith_type1 (thn (ha.run pos pins s σ H _ I (LA.mk (R := WA (zx X) H _) rs re q fun r S' v H' e1 r1 r2 r3 => ⟨r, S', e1, r1, r2, r3⟩)) fun us s1 ⟨vs, H1, I1, r1, ⟨ts, S1, e1, rs1, rr, q1⟩⟩ => ?_) hs rfl))
  dsimp only at q1
  split at q1
  · rename_i z
    obtain ⟨v, rfl, h1⟩ := rr.one'
    rw [rt_str] at h1
    subst h1
    obtain ⟨u, rfl, ru⟩ := vals1 r1
    obtain ⟨tk, rfl⟩ := ru
    refine call_enumerate_str fun h' he hit hsz hk => wpAny_pyIter_enum he ?_
    have I2 : Inv X pins σ H1 { s1 with heap := h' } := I1.kept (t' := s1.toks) hk
    refine ⟨s1.heap.objs.size + 1, [s1.heap.objs.size + 1, s1.heap.objs.size], _, ItS z, H1, rfl, I2, turn_enumS (Nat.succ_ne_self _), ⟨⟨.none, he⟩, hit, Nat.zero_le _⟩, fun b hb => ?_, m _ _ _ _ e1 rs1 ⟨fun i S' H' x rs' ext' live ei => ?_, fun i S' H' rs' ext' live ei => ?_⟩ q1⟩
    · have e' : b = s1.heap.objs.size + 1 ∨ b = s1.heap.objs.size := by simpa using hb
      have hle : s1.heap.objs.size ≤ b := by
        rcases e' with z | z
        · rw [z]; exact Nat.le_add_right _ _
        · rw [z]; exact Nat.le_refl _
      exact I1.fpOk hle (I1.hok.fresh hle)
    · have ei : (enumT 0 z.cps.toList)[i]? = some x := ei
      rw [enumT_get] at ei
      cases hc : z.cps.toList[i]? with
      | none => rw [hc] at ei; cases ei
      | some c =>
        rw [hc] at ei
        have ei : T.tup [.int ((0 + i : Nat) : Int), .str ⟨#[c]⟩] = x := by simpa using ei
        subst ei
        have hlt : i < z.cps.size := by
          have := (List.getElem?_eq_some_iff.mp hc).1
          rwa [Array.length_toList] at this
        refine ⟨hlt, fun w H'' yl => ?_⟩
        obtain ⟨T', c', ob, g1, rfl, g2, g3, rfl⟩ := yl
        rw [← Array.getElem?_toList, hc] at g1
        cases g1
        refine ⟨.new g2, rs'.new g2, ?_⟩
        rw [rt_tup, Nat.zero_add]
        exact ⟨T', _, rfl, .inl ⟨ob, upd_same, g3⟩, .cons (by rw [rt_int]) (.cons (by rw [rt_str]) .nil)⟩
    · have ei : (enumT 0 z.cps.toList)[i]? = none := ei
      rw [enumT_get, Option.map_eq_none_iff] at ei
      have := List.getElem?_eq_none_iff.mp ei
      rwa [Array.length_toList] at this
  · exact q1.elim
/-! a, b, c = d, e, f -/
def tsPar3 (i j l : Nat) (ta : TTA) : TTS := fun D ρ S => ta ρ S fun vs S1 => match vs with
  | [v, w, u] => D.nx (((ρ.set i (some v)).set j (some w)).set l (some u)) S1
  | _ => False
theorem RTs.three' {K : Zk} {H : Hp} {x y z : T} {vs : List V} (h : RTs K H [x, y, z] vs) : ∃ u v w, vs = [u, v, w] ∧ RT K H x u ∧ RT K H y v ∧ RT K H z w := by
  rw [rts_cons] at h
  obtain ⟨v, r, rfl, h1, h2⟩ := h
  obtain ⟨w, u, rfl, h3, h4⟩ := h2.two'
  exact ⟨v, w, u, rfl, h1, h3, h4⟩
theorem s_par3 {X : Cx} {i j l : Nat} {x y z : Str} {a b c : Expr} {ta : TTA} {px py pz pt pos : Pos} {kt k2 pt2} (hc : X.calm = true) (hN : X.N.Nodup) (hi : X.N[i]? = some x) (hj : X.N[j]? = some y) (hl : X.N[l]? = some z) (hij : i ≠ j) (hil : i ≠ l) (hjl : j ≠ l)
    (hx : X.env.scope.names.lookup x = some .local) (hy : X.env.scope.names.lookup y = some .local) (hz : X.env.scope.names.lookup z = some .local) (ha : QA X [a, b, c] ta)
    (hw : swappedStores [.Tuple [.Name x px, .Name y py, .Name z pz] kt pt] (.Tuple [a, b, c] k2 pt2) X.env = pure (some [x, y, z]))
    (hs : swapsWithSole [.Tuple [.Name x px, .Name y py, .Name z pz] kt pt] (.Tuple [a, b, c] k2 pt2) pos.line X.env = pure false := by rfl) :
    QS X (.Assign [.Tuple [.Name x px, .Name y py, .Name z pz] kt pt] (.Tuple [a, b, c] k2 pt2) pos) (tsPar3 i j l ta) :=
  qs_of (ps_par3 hc hN hi hj hl hij hil hjl hx hy hz ha hw hs) fun σ H ρ S D rs re q => LA.mk rs re q fun ts S1 vs H1 e1 rs1 rr q1 => by
    split at q1
    · obtain ⟨u, v, w, rfl, h1, h2, h3⟩ := rr.three'
      exact ⟨u, v, w, rfl, _, S1, e1, rs1, (((re.ext e1).set h1 i).set h2 j).set h3 l, q1⟩
    · exact q1.elim
def tlRng2 (ta tb : TTE) : TTE := fun ρ S Q => ta ρ S fun x S1 => tb ρ S1 fun y S2 => match x, y with
  | .int i, .int j => (0 ≤ i ∧ i ≤ 4000 ∧ 0 ≤ j ∧ j ≤ 4000) ∧ NewO S2 (.lst (rngT i (j - i).toNat)) Q
  | _, _ => False
theorem q_lstRng2 {X : Cx} {a b : Expr} {ta tb : TTE} {p p2 pos pos2 : Pos} (hc : X.calm = true) (hg : Gl X "list") (hm : X.mg "list" = none) (hg2 : Gl X "range") (hm2 : X.mg "range" = none) (ha : QE X a ta) (hb : QE X b tb)
    (na : starEach [a, b] X.env = (false, eval a X.env) :: starEach [b] X.env := by rfl) (nb : starEach [b] X.env = (false, eval b X.env) :: starEach [] X.env := by rfl)
    (hp : (backTo pos2 (starEach [b] X.env)).any (·.1) = false := by rfl)
    (hs2 : starEach [.Call (.Name "range" p2) [a, b] [] pos2] X.env = (false, eval (.Call (.Name "range" p2) [a, b] [] pos2) X.env) :: starEach [] X.env := by rfl) :
    QE X (.Call (.Name "list" p) [.Call (.Name "range" p2) [a, b] [] pos2] [] pos) (tlRng2 ta tb) := by
  refine qe_of (pe_listRg hc hg hm (prg_2 hg2 hm2 ha hb na nb hp) hs2) fun σ H ρ S Q rs re q => LE.mk rs re q fun x S1 v H1 e1 rs1 rx q1 => LE.mk rs1 (re.ext e1) q1 fun y S2 u H2 e2 rs2 ry q2 => ?_
  split at q2
  · rename_i i j
    rw [rt_int] at rx ry
    obtain ⟨⟨h0, h4, h1, h5⟩, q2⟩ := q2
    refine ⟨i, j, rx, ry, ⟨by omega, by omega, by omega, by omega, by omega⟩, fun l hl => .lst (e1.trans e2) rs2 hl ?_ (q2.at (rs2.none_of hl))⟩
    exact RTs.rng (K := zx X) (H := H2) (j - i).toNat i
  · exact q2.elim
end TL
set_option Elab.async false
set_option linter.all false
set_option maxRecDepth 100000
set_option maxHeartbeats 1000000
/-! TLs: steps: each operation over T, as a step of a verification condition. -/
namespace TL
open PySem PySem.Spec PyProof.Rows L2
theorem Upd.get {S S' : Sto} {a b : Addr} {o o' : MO} (u : Upd S a o S') (h : b ≠ a) (e : S b = some o') : S' b = some o' := (u.off b h).trans e
section
variable {S : Sto} {Q : T → Sto → Prop} {a b : Addr} {xs ys : List T} {v w : T} {i j : Int}
theorem nn {p q : Addr} {o : MO} (h : S p = none) (h2 : S q = some o) : q ≠ p := fun z => by rw [z, h] at h2; cases h2
theorem st_ixl (h : S a = some (.lst xs)) (e : atI xs i = some v) (q : Q v S) : oIx (.adr a) (.int i) S Q := by
  unfold oIx; simp only [lstAt_of h, e]; exact q
theorem st_ixt (e : atI xs i = some v) (q : Q v S) : oIx (.tup xs) (.int i) S Q := by
  unfold oIx; simp only [e]; exact q
theorem st_ixf (e : atI xs i = some v) (q : Q v S) : oIx (.fl xs) (.int i) S Q := by
  unfold oIx; simp only [e]; exact q
theorem st_ixs {z : Str} {c : Nat} (hz : z.length ≤ sizeLine) (e : atI z.cps.toList i = some c) (q : Q (.str ⟨#[c]⟩) S) : oIx (.str z) (.int i) S Q := by
  unfold oIx; simp only [e]; exact ⟨hz, q⟩
theorem lst_dk {kvs : List (Key × T)} (h : S a = some (.dk kvs)) : lstAt S a = none := by unfold lstAt; rw [h]
theorem lst_dx {kvs : List (List Key × T)} (h : S a = some (.dx kvs)) : lstAt S a = none := by unfold lstAt; rw [h]
theorem st_ixd {kvs : List (Key × T)} {y : T} {k : Key} (h : S a = some (.dk kvs)) (ek : keyT y = some k) (e : valT kvs k = some v) (q : Q v S) : oIx (.adr a) y S Q := by
  have hd : dget S a y = some (some v) := by unfold dget; rw [h]; simp only [ek, Option.map_some, e]
  unfold oIx
  simp only [lst_dk h, hd]; exact q
theorem st_ixx {kvs : List (List Key × T)} {zs : List T} {ks : List Key} (h : S a = some (.dx kvs)) (ek : keysT zs = some ks) (e : valT kvs ks = some v) (q : Q v S) : oIx (.adr a) (.tup zs) S Q := by
  have hd : dget S a (.tup zs) = some (some v) := by unfold dget; rw [h]; simp only [ek, Option.map_some, e]
  unfold oIx
  simp only [lst_dx h, hd]; exact q
theorem st_set {R : Sto → Prop} {n : Nat} (h : S a = some (.lst xs)) (e : ixN xs.length i = some n) (ey : xs.set n v = ys) (q : ∀ S', Upd S a (.lst ys) S' → R S') : oSet (.adr a) (.int i) v S R := by
  unfold oSet; simp only [h, e, ey]; exact q _ .of
theorem st_setd {R : Sto → Prop} {kvs : List (Key × T)} {y : T} {k : Key} (h : S a = some (.dk kvs)) (ek : keyT y = some k) (hz : kvs.length < sizeLine) (q : ∀ S', Upd S a (.dk (putT kvs k v)) S' → R S') : oSet (.adr a) y v S R := by
  unfold oSet; simp only [h, ek]; exact ⟨hz, q _ .of⟩
theorem st_add (q : Q (.int (i + j)) S) : oAdd (.int i) (.int j) S Q := q
theorem st_adds {x y : Str} (h : x.length + y.length ≤ sizeLine) (q : Q (.str (x ++ y)) S) : oAdd (.str x) (.str y) S Q := ⟨h, q⟩
theorem st_addt (h : xs.length + ys.length ≤ sizeLine) (q : Q (.tup (xs ++ ys)) S) : oAdd (.tup xs) (.tup ys) S Q := ⟨h, q⟩
theorem st_addl (h1 : S a = some (.lst xs)) (h2 : S b = some (.lst ys)) (h : xs.length + ys.length ≤ sizeLine) (q : NewO S (.lst (xs ++ ys)) Q) : oAdd (.adr a) (.adr b) S Q := ⟨xs, ys, h1, h2, h, q⟩
theorem st_sub (q : Q (.int (i - j)) S) : oSub (.int i) (.int j) S Q := q
theorem st_mul (h : CMul i j) (q : Q (.int (i * j)) S) : oMul (.int i) (.int j) S Q := ⟨h, q⟩
theorem st_mull (h : S a = some (.lst xs)) (h1 : -(2 ^ 63) ≤ j) (h2 : j < 2 ^ 63) (hz : xs.length * j.toNat ≤ sizeLine) (q : NewO S (.lst (List.replicate j.toNat xs).flatten) Q) : oMul (.adr a) (.int j) S Q := ⟨xs, h, h1, h2, hz, q⟩
theorem st_div (h : CDivW i j) (q : Q (.int (i / j)) S) : oDiv (.int i) (.int j) S Q := ⟨h, q⟩
theorem st_mod (h : 0 < j) (q : Q (.int (i % j)) S) : oMod (.int i) (.int j) S Q := ⟨h, q⟩
theorem st_pow (h : CPow i j) (q : Q (.int (i ^ j.toNat)) S) : oPow (.int i) (.int j) S Q := ⟨h, q⟩
theorem st_lt (q : Q (.bl (decide (i < j))) S) : oLt (.int i) (.int j) S Q := q
theorem st_le (q : Q (.bl (decide (i ≤ j))) S) : oLe (.int i) (.int j) S Q := q
theorem st_gt (q : Q (.bl (decide (j < i))) S) : oGt (.int i) (.int j) S Q := q
theorem st_ge (q : Q (.bl (decide (j ≤ i))) S) : oGe (.int i) (.int j) S Q := q
/-- == of two lists -/
theorem st_eql {neg : Bool} (h1 : S a = some (.lst xs)) (h2 : S b = some (.lst ys)) (p1 : T.purs xs = true) (p2 : T.purs ys = true) (hd : min (T.depths xs) (T.depths ys) ≤ 149) (q : Q (.bl (eqG neg (eqTs xs ys))) S) : oEqG neg (.adr a) (.adr b) S Q :=
  ⟨xs, ys, lstAt_of h1, lstAt_of h2, p1, p2, hd, q⟩
theorem st_eq {neg : Bool} {x y : T} (p1 : x.pur = true) (p2 : y.pur = true) (hd : min x.depth y.depth ≤ 150) (q : Q (.bl (eqG neg (eqT x y))) S) : oEqG neg x y S Q := by
  unfold oEqG
  split
  · rw [pur_adr] at p1; cases p1
  · exact ⟨p1, p2, hd, q⟩
theorem st_is {neg : Bool} {x : T} (q : Q (.bl (eqG neg (match x with | .non => true | _ => false))) S) : oIsG neg x .non S Q := q
theorem st_app (h : S a = some (.lst xs)) (hz : xs.length < sizeLine) (q : ∀ S', Upd S a (.lst (xs ++ [v])) S' → Q .non S') : oAppend (.adr a) v S Q := by
  unfold oAppend; simp only [h]; exact ⟨hz, q _ .of⟩
theorem st_pop {y : T} (h : S a = some (.lst xs)) (e : xs[xs.length - 1]? = some y) (q : ∀ S', Upd S a (.lst xs.dropLast) S' → Q y S') : oPop0 (.adr a) S Q := by
  unfold oPop0; simp only [h, e]; exact q _ .of
theorem st_popAt {k : Nat} {y : T} (h : S a = some (.lst xs)) (h1 : -(2 ^ 63) ≤ i) (h2 : i < 2 ^ 63) (e : seqIndex? i xs.length = some k) (ey : xs[k]? = some y) (q : ∀ S', Upd S a (.lst (xs.eraseIdx k)) S' → Q y S') : oPopAt (.adr a) (.int i) S Q := by
  unfold oPopAt; simp only [h, e, ey]; exact ⟨⟨h1, h2⟩, q _ .of⟩
theorem st_isl (h : S a = some (.lst xs)) : isLst S (.adr a) := by
  show (lstAt S a).isSome = true
  rw [lstAt_of h]; rfl
theorem st_lenl (h : S a = some (.lst xs)) (q : Q (.int xs.length) S) : oLen [.adr a] S Q := by
  unfold oLen; simp only [h]; exact q
theorem st_tupl (h : S a = some (.lst xs)) (q : Q (.tup xs) S) : oTup [.adr a] S Q := by
  unfold oTup; simp only [lstAt_of h]; exact q
theorem st_sum {ns : List Int} (h : S a = some (.lst (ns.map T.int))) (q : Q (.int ns.sum) S) : oSum [.adr a] S Q := by
  unfold oSum
  simp only [lstAt_of h, Option.bind_some, intsT_map]; exact q
theorem st_sll {lo hi : Option Int} (h : S a = some (.lst xs)) (q : NewO S (.lst (cutT xs lo hi)) Q) : oSl (.adr a) lo hi S Q := by
  unfold oSl; simp only [lstAt_of h]; exact q
theorem st_slf {lo hi : Option Int} (q : NewO S (.lst (cutT xs lo hi)) Q) : oSl (.fl xs) lo hi S Q := by
  unfold oSl; exact q
theorem st_slt {lo hi : Option Int} (q : Q (.tup (cutT xs lo hi)) S) : oSl (.tup xs) lo hi S Q := q
theorem z4000 {n : Nat} (h : n ≤ 4000) : n ≤ sizeLine := Nat.le_trans h (by decide)
theorem st_lst (hz : xs.length ≤ 4000) (q : NewO S (.lst xs) Q) : xs.length ≤ sizeLine ∧ NewO S (.lst xs) Q := ⟨z4000 hz, q⟩
theorem st_nil (q : NewO S (.lst []) Q) : ([] : List T).length ≤ sizeLine ∧ NewO S (.lst []) Q := ⟨Nat.zero_le _, q⟩
theorem nw {o : MO} (q : ∀ (p : Addr) (S' : Sto), S p = none → S' p = some o → Ex S S' → Q (.adr p) S') : NewO S o Q := fun p S' h u => q p S' h u.at_ fun a m e => u.get (nn h e) e
theorem seq_cut {t u : TTS} {D : EndsT} {ρ : Rho} {S : Sto} (h : ∀ v : TTS, v = u → tsSeq t v D ρ S) : tsSeq t u D ρ S := h u rfl
theorem for_cut {w : TTI} {g : TTG} {tb : TTS} {D : EndsT} {ρ : Rho} {S : Sto} (h : ∀ b : TTS, b = tb → tsFor w g b D ρ S) : tsFor w g tb D ρ S := h tb rfl
theorem ends_cut {t : TTS} {D : EndsT} {ρ : Rho} {S : Sto} (h : ∀ E : EndsT, E = D → t E ρ S) : t D ρ S := h D rfl
theorem ix3_0 {x y z : T} : atI [x, y, z] 0 = some x := rfl
theorem purs_ints : ∀ ns : List Int, T.purs (ns.map T.int) = true
  | [] => purs_nil
  | n :: ns => by rw [List.map_cons, purs_cons, pur_int, purs_ints ns]; rfl
theorem depths_ints : ∀ ns : List Int, T.depths (ns.map T.int) = 0
  | [] => depths_nil
  | n :: ns => by rw [List.map_cons, depths_cons, depth_int, depths_ints ns]; rfl
theorem purs_strs : ∀ ns : List Str, T.purs (ns.map T.str) = true
  | [] => purs_nil
  | n :: ns => by rw [List.map_cons, purs_cons, pur_str, purs_strs ns]; rfl
theorem depths_strs : ∀ ns : List Str, T.depths (ns.map T.str) = 0
  | [] => depths_nil
  | n :: ns => by rw [List.map_cons, depths_cons, depth_str, depths_strs ns]; rfl
theorem mul_l (h1 : -(2 ^ 64) < i) (h2 : i < 2 ^ 64) : CMul i j := .inl ⟨h1, h2⟩
theorem mul_r (h1 : -(2 ^ 64) < j) (h2 : j < 2 ^ 64) : CMul i j := .inr ⟨h1, h2⟩
theorem div_64 (h0 : 0 < j) (h : j < 2 ^ 64) : CDivW i j := wide_div (b := 64) h0 (by omega) (by decide) (by decide)
end
end TL
set_option Elab.async false
set_option linter.all false
set_option maxRecDepth 100000
set_option maxHeartbeats 1000000
/-! TLk: comprehensions by one turn; what stays outside a few addresses. -/
namespace TL
open PySem PySem.Spec PyProof.Rows L2
/-- all stays but what stands at the named addresses -/
def Kp (X : Addr → Prop) (S S' : Sto) : Prop := ∀ a o, ¬ X a → S a = some o → S' a = some o
theorem Kp.refl {X : Addr → Prop} {S : Sto} : Kp X S S := fun _ _ _ h => h
theorem Kp.trans {X : Addr → Prop} {S S1 S2 : Sto} (a : Kp X S S1) (b : Kp X S1 S2) : Kp X S S2 := fun c o n h => b c o n (a c o n h)
theorem Ex.kp {X : Addr → Prop} {S S' : Sto} (a : Ex S S') : Kp X S S' := fun c o _ h => a c o h
theorem Kp.ex {S S' : Sto} (a : Kp (fun _ => False) S S') : Ex S S' := fun c o h => a c o (fun z => z) h
/-- a comprehension behind its source -/
def LcB (src : Src) (bt : T → Rho → Option Rho) (tt : TTT) (te : TTE) (vs : List Nat) (ρ : Rho) (Q : T → Sto → Prop) (S1 : Sto) : Prop :=
  ∀ D, S1 D = none → ∃ I : Nat → List T → Sto → Prop, (∀ S0, Upd S1 D (.lst []) S0 → I 0 [] S0) ∧ ∀ i acc S', I i acc S' → S' D = some (.lst acc) ∧ src.live S' ∧ match src.items[i]? with
  | none => Q (.adr D) S'
  | some x => (match bt x (wipeT ρ vs) with
    | some ρ2 => tt ρ2 S' fun b S3 => match b with
      | true => te ρ2 S3 fun y S4 => S4 D = some (.lst acc) ∧ acc.length < sizeLine ∧ ∀ S5, Upd S4 D (.lst (acc ++ [y])) S5 → I (i + 1) (acc ++ [y]) S5
      | false => I (i + 1) acc S3
    | none => False)
theorem tlc_eq {w : TTI} {bt : T → Rho → Option Rho} {tt : TTT} {te : TTE} {vs : List Nat} {ρ : Rho} {S : Sto} {Q : T → Sto → Prop} :
    tlc w bt tt te vs ρ S Q = w ρ S fun src S1 => LcB src bt tt te vs ρ Q S1 := rfl
/-- one turn: what the parts answer is told to every end -/
theorem lc_kp {src : Src} {bt : T → Rho → Option Rho} {tt : TTT} {te : TTE} {vs : List Nat} {ρ : Rho} {Q : T → Sto → Prop} {S1 : Sto}
    (X : Addr → Prop) (P : Sto → Prop) (A : Nat → List T → Prop)
    (hX : ∀ a, X a → S1 a ≠ none) (P0 : P S1) (hP : ∀ S S' p o, P S → Kp X S1 S → S1 p = none → Upd S p o S' → P S') (A0 : A 0 [])
    (step : ∀ i acc S', A i acc → P S' → Kp X S1 S' → src.live S' ∧ match src.items[i]? with
      | none => ∀ D, S1 D = none → S' D = some (.lst acc) → Q (.adr D) S'
      | some x => ∃ ρ2, bt x (wipeT ρ vs) = some ρ2 ∧ acc.length < sizeLine ∧ ∀ (Rt : T → Sto → Prop) (Rf : Sto → Prop),
          (∀ y S4, Kp X S' S4 → P S4 → A (i + 1) (acc ++ [y]) → Rt y S4) → (∀ S3, Kp X S' S3 → P S3 → A (i + 1) acc → Rf S3) →
          tt ρ2 S' fun b S3 => match b with | true => te ρ2 S3 Rt | false => Rf S3) : LcB src bt tt te vs ρ Q S1 := by
  intro D hD
  have nD : ¬ X D := fun z => hX D z hD
  refine ⟨fun i acc S' => A i acc ∧ P S' ∧ Kp X S1 S' ∧ S' D = some (.lst acc), fun S0 u => ⟨A0, hP _ _ _ _ P0 .refl hD u, fun a o _ h => u.get (nn hD h) h, u.at_⟩, ?_⟩
  rintro i acc S' ⟨hA, hPS, k, hS⟩
  obtain ⟨l, h⟩ := step i acc S' hA hPS k
  refine ⟨hS, l, ?_⟩
  cases ei : src.items[i]? with
  | none => rw [ei] at h; exact h D hD hS
  | some x =>
    rw [ei] at h
    obtain ⟨ρ2, e, hz, h⟩ := h
    simp only [e]
    refine h _ _ (fun y S4 k4 p4 a4 => ⟨k4 _ _ nD hS, hz, fun S5 u => ⟨a4, hP _ _ _ _ p4 (k.trans k4) hD u, fun a o na h0 => u.get (nn hD h0) (k.trans k4 a o na h0), u.at_⟩⟩) (fun S3 k3 p3 a3 => ⟨a3, p3, k.trans k3, k3 _ _ nD hS⟩)
/-- no name taken from elsewhere: only growth -/
theorem lc_ex {src : Src} {bt : T → Rho → Option Rho} {tt : TTT} {te : TTE} {vs : List Nat} {ρ : Rho} {Q : T → Sto → Prop} {S1 : Sto}
    (A : Nat → List T → Prop) (A0 : A 0 [])
    (step : ∀ i acc S', A i acc → Ex S1 S' → src.live S' ∧ match src.items[i]? with
      | none => ∀ D, S1 D = none → S' D = some (.lst acc) → Q (.adr D) S'
      | some x => ∃ ρ2, bt x (wipeT ρ vs) = some ρ2 ∧ acc.length < sizeLine ∧ ∀ (Rt : T → Sto → Prop) (Rf : Sto → Prop),
          (∀ y S4, Ex S' S4 → A (i + 1) (acc ++ [y]) → Rt y S4) → (∀ S3, Ex S' S3 → A (i + 1) acc → Rf S3) →
          tt ρ2 S' fun b S3 => match b with | true => te ρ2 S3 Rt | false => Rf S3) : LcB src bt tt te vs ρ Q S1 := by
  refine lc_kp (fun _ => False) (fun _ => True) A (fun _ h => h.elim) trivial (fun _ _ _ _ _ _ _ _ => trivial) A0 fun i acc S' hA _ k => ?_
  obtain ⟨l, h⟩ := step i acc S' hA k.ex
  refine ⟨l, ?_⟩
  cases ei : src.items[i]? with
  | none => rw [ei] at h; exact h
  | some x =>
    rw [ei] at h
    obtain ⟨ρ2, e, hz, h⟩ := h
    exact ⟨ρ2, e, hz, fun Rt Rf h1 h2 => h Rt Rf (fun y S4 k4 a4 => h1 y S4 k4.kp trivial a4) (fun S3 k3 a3 => h2 S3 k3.kp trivial a3)⟩
end TL
set_option Elab.async false
set_option linter.all false
set_option maxRecDepth 100000
set_option maxHeartbeats 1000000
/-! TLA6: what the defs of k76 are asked and answer. -/
namespace LAW
open PySem PySem.Spec PyProof.Rows L2 TL
/-! the deck -/
structure Deck (S : Sto) (D C : Addr) : Prop where
  ne : D ≠ C
  ex : ∃ (cells : List Int) (mix cnt : Int), S D = some (.lst [.adr C, .int mix, .int cnt]) ∧ S C = some (.lst (cells.map T.int)) ∧ cells.length ≤ 100
/-- the deck has turned, all else stands -/
structure Fr (D C : Addr) (S S' : Sto) : Prop where
  dk : Deck S' D C
  kp : ∀ a o, a ≠ D → a ≠ C → S a = some o → S' a = some o
def spDraw : TSp := fun ts S Q => ∃ (D C : Addr) (m : Int), ts = [.adr D, .int m] ∧ Deck S D C ∧ 1 ≤ m ∧ m < 2 ^ 128 ∧ ∀ (v : Int) (S' : Sto), 0 ≤ v → v < m → Fr D C S S' → Q (.int v) S'
/-- a draw of one number that may be great (the step `by`) -/
def spDeck : TSp := fun ts S Q => ∃ (ns : List Int) (b : Addr), ts = [.adr b] ∧ S b = some (.lst (ns.map T.int)) ∧ ∀ (D C : Addr) (S' : Sto), S D = none → S C = none → Deck S' D C → Ex S S' → Q (.adr D) S'
def spPick : TSp := fun ts S Q => ∃ (D C b : Addr) (xs : List T), ts = [.adr D, .adr b] ∧ Deck S D C ∧ b ≠ D ∧ b ≠ C ∧ S b = some (.lst xs) ∧ 1 ≤ xs.length ∧ xs.length ≤ 1000 ∧ ∀ (v : T) (S' : Sto), v ∈ xs → Fr D C S S' → Q v S'
def lower (x : Str) : Prop := 1 ≤ x.length ∧ x.length ≤ 8 ∧ ∀ c ∈ x.cps.toList, 97 ≤ c ∧ c ≤ 122
def spNames : TSp := fun ts S Q => ∃ (D C : Addr) (m : Int), ts = [.adr D, .int m] ∧ Deck S D C ∧ 1 ≤ m ∧ m ≤ 8 ∧ ∀ (p : Addr) (xs : List Str) (S' : Sto), xs.length = m.toNat → (∀ x ∈ xs, lower x) → Fr D C S S' → S p = none → S' p = some (.lst (xs.map T.str)) → Q (.adr p) S'
/-! kinds -/
inductive Kd where | num | tru | opn (x : Str) | lst (k : Kd) | pair (a b : Kd) | eith (a b : Kd) | fn (a b : Kd)
def Kd.t : Kd → T
  | .num => .tup [.str "num"] | .tru => .tup [.str "truth"] | .opn x => .tup [.str "open", .str x]
  | .lst k => .tup [.str "list", k.t] | .pair a b => .tup [.str "pair", a.t, b.t] | .eith a b => .tup [.str "either", a.t, b.t]
  | .fn a b => .tup [.str "fun", a.t, b.t]
def Kd.h : Kd → Nat
  | .num => 0 | .tru => 0 | .opn _ => 0 | .lst k => k.h + 1 | .pair a b => max a.h b.h + 1 | .eith a b => max a.h b.h + 1 | .fn a b => max a.h b.h + 1
/-- how many arguments -/
def Kd.ar : Kd → Nat | .fn _ b => b.ar + 1 | _ => 0
def Kd.ok : Kd → Prop
  | .num => True | .tru => True | .opn x => lower x | .lst k => k.ok | .pair a b => a.ok ∧ b.ok | .eith a b => a.ok ∧ b.ok | .fn a b => a.ok ∧ b.ok ∧ b.ar ≤ 2
/-- nodes -/
def Kd.m : Kd → Nat
  | .num => 2 | .tru => 2 | .opn _ => 3 | .lst k => k.m + 2 | .pair a b => a.m + b.m + 2 | .eith a b => a.m + b.m + 2 | .fn a b => a.m + b.m + 2
def Kd.args : Kd → List Kd | .fn a b => a :: b.args | _ => []
def Kd.res : Kd → Kd | .fn _ b => b.res | k => k
/-! trees: nodes; literals short; no heads of rounds, holes -/
mutual
def sz : T → Nat
  | .tup xs => szs xs + 1
  | _ => 1
def szs : List T → Nat
  | [] => 0
  | x :: xs => sz x + szs xs
end
theorem sz_tup {xs : List T} : sz (.tup xs) = szs xs + 1 := by conv => lhs; unfold sz
theorem sz_str {x : Str} : sz (.str x) = 1 := by unfold sz; rfl
theorem sz_int {x : Int} : sz (.int x) = 1 := by unfold sz; rfl
theorem sz_bl {x : Bool} : sz (.bl x) = 1 := by unfold sz; rfl
theorem szs_nil : szs [] = 0 := by unfold szs; rfl
theorem szs_cons {x : T} {xs : List T} : szs (x :: xs) = sz x + szs xs := by conv => lhs; unfold szs
def low9 (x : Str) : Prop := x.length ≤ 9 ∧ ∀ c ∈ x.cps.toList, 97 ≤ c ∧ c ≤ 122
mutual
def Lit : T → Prop
  | .bl _ => True
  | .int i => 0 ≤ i ∧ i ≤ 1000000
  | .str x => low9 x
  | .tup xs => Lits xs
  | _ => False
def Lits : List T → Prop
  | [] => True
  | x :: xs => Lit x ∧ Lits xs
end
theorem lit_tup {xs : List T} : Lit (.tup xs) = Lits xs := by conv => lhs; unfold Lit
theorem lit_str {x : Str} : Lit (.str x) = low9 x := by conv => lhs; unfold Lit
theorem lit_int {i : Int} : Lit (.int i) = (0 ≤ i ∧ i ≤ 1000000) := by conv => lhs; unfold Lit
theorem lit_bl {b : Bool} : Lit (.bl b) = True := by conv => lhs; unfold Lit
theorem lits_nil : Lits [] = True := by conv => lhs; unfold Lits
theorem lits_cons {x : T} {xs : List T} : Lits (x :: xs) = (Lit x ∧ Lits xs) := by conv => lhs; unfold Lits
def hd : List T → Prop | .str w :: _ => w ≠ "rounds" ∧ w ≠ "hole" | _ => True
mutual
def Nr : T → Prop
  | .tup xs => hd xs ∧ Nrs xs
  | _ => True
def Nrs : List T → Prop
  | [] => True
  | x :: xs => Nr x ∧ Nrs xs
end
theorem nr_tup {xs : List T} : Nr (.tup xs) = (hd xs ∧ Nrs xs) := by conv => lhs; unfold Nr
theorem nr_str {x : Str} : Nr (.str x) = True := by conv => lhs; unfold Nr
theorem nr_int {i : Int} : Nr (.int i) = True := by conv => lhs; unfold Nr
theorem nr_bl {b : Bool} : Nr (.bl b) = True := by conv => lhs; unfold Nr
theorem nrs_nil : Nrs [] = True := by conv => lhs; unfold Nrs
theorem nrs_cons {x : T} {xs : List T} : Nrs (x :: xs) = (Nr x ∧ Nrs xs) := by conv => lhs; unfold Nrs
/-- a plain part of a term -/
structure Pb (x : T) : Prop where
  lit : Lit x
  nr : Nr x
  sz : sz x ≤ 5200
  dp : x.depth ≤ 30
/-! the table of forms -/
def formsL : List (Str × Str) := [("name", "x"), ("fun", "xat"), ("call", "tt"), ("num", "k"), ("plus", "tt"), ("less", "tt"), ("truth", "b"), ("if", "ttt"), ("pair", "tt"), ("first", "t"), ("second", "t"), ("left", "td"), ("right", "dt"), ("case", "txtxt"), ("none", "d"), ("more", "tt"), ("fold", "ttxxt"), ("built", "dxxxt"), ("alike", "tt"), ("fault", "d"), ("rounds", "rtxt")]
def formOf (w : Str) : Option Str := (formsL.find? fun r => decide (r.1 = w)).map (·.2)
def formsF : Str → Option T := fun w => (formOf w).map T.str
/-- where terms stand -/
def signs (w : Str) : Option (List Bool) := (formOf w).map fun z => z.cps.toList.map fun c => decide (c = 116)
def Parts (W P : T → Prop) : List Bool → List T → Prop
  | [], [] => True
  | true :: bs, p :: ps => W p ∧ Parts W P bs ps
  | false :: bs, p :: ps => P p ∧ Parts W P bs ps
  | _, _ => False
/-- a term of height at most n -/
def WF : Nat → T → Prop
  | 0, _ => False
  | n + 1, t => ∃ (w : Str) (sg : List Bool) (ps : List T), t = .tup (.str w :: ps) ∧ signs w = some sg ∧ Parts (WF n) Pb sg ps ∧ (w = "rounds" → ∃ (a : Int) (r : List T), 0 ≤ a ∧ a ≤ 30 ∧ ps = .int a :: r)
/-- the terms' places -/
def spots : Nat → List Bool → List Nat | _, [] => [] | i, true :: bs => i :: spots (i + 1) bs | i, false :: bs => spots (i + 1) bs
def inn : List Bool → List T → List T | true :: bs, p :: ps => p :: inn bs ps | false :: bs, _ :: ps => inn bs ps | _, _ => []
def putIn : List Bool → List T → List T → List T
  | true :: bs, _ :: ps, q :: qs => q :: putIn bs ps qs
  | false :: bs, p :: ps, qs => p :: putIn bs ps qs
  | _, ps, _ => ps
/-! more rounds -/
def fixR (v : Int) : List T → T
  | [.str w, .int a, p, q, r] => if w = "rounds" then .tup [.str "rounds", .int (min 30 (a + v)), p, q, r] else .tup [.str w, .int a, p, q, r]
  | xs => .tup xs
mutual
def moreT (v : Int) : T → T
  | .tup xs => fixR v (moreTs v xs)
  | x => x
def moreTs (v : Int) : List T → List T
  | [] => []
  | x :: xs => moreT v x :: moreTs v xs
end
theorem moreT_tup {v : Int} {xs : List T} : moreT v (.tup xs) = fixR v (moreTs v xs) := by conv => lhs; unfold moreT
theorem moreTs_nil {v : Int} : moreTs v [] = [] := by unfold moreTs; rfl
theorem moreTs_cons {v : Int} {x : T} {xs : List T} : moreTs v (x :: xs) = moreT v x :: moreTs v xs := by conv => lhs; unfold moreTs
/-- what law_more walks -/
def rhd : List T → Prop | [.str w, b, _, _, _] => w = "rounds" → ∃ a, b = .int a | _ => True
mutual
def Mk : T → Prop
  | .tup xs => xs.length ≤ 6000 ∧ rhd xs ∧ Mks xs
  | .fl _ => False
  | .adr _ => False
  | _ => True
def Mks : List T → Prop
  | [] => True
  | x :: xs => Mk x ∧ Mks xs
end
theorem mk_tup {xs : List T} : Mk (.tup xs) = (xs.length ≤ 6000 ∧ rhd xs ∧ Mks xs) := by conv => lhs; unfold Mk
theorem mks_nil : Mks [] = True := by conv => lhs; unfold Mks
theorem mks_cons {x : T} {xs : List T} : Mks (x :: xs) = (Mk x ∧ Mks xs) := by conv => lhs; unfold Mks
/-! the generator's world -/
def up (d : Int) : Nat := (6 - max d 0).toNat
/-- a kind that stands at deep d -/
structure Kg (d : Int) (k : Kd) : Prop where
  ok : k.ok
  m : k.m + 2 ≤ 80 * 2 ^ up d
  h : k.h ≤ 6 + 3 * up d
  ar : k.ar ≤ 3
def lev (d : Int) (h : Nat) : Nat := if d ≤ -2 then 40 + 3 * h else 115 + 6 * (d + 2).toNat
def hgt (d : Int) (h : Nat) : Nat := if d ≤ -2 then h + 1 else 26 + 4 * (d + 2).toNat
def pairT (p : Str × Kd) : T := .tup [.str p.1, p.2.t]
def Knd (d : Int) (ks : List (Str × Kd)) : Prop := ∀ p ∈ ks, low9 p.1 ∧ Kg d p.2
structure Tools (S : Sto) (D C tl : Addr) (own : Str) : Prop where
  no : lower own
  n1 : tl ≠ D
  n2 : tl ≠ C
  ex : ∃ (kvs : List (Key × T)) (an al aw : Addr) (a b c : Str) (looked ws : List Str) (f : Int), S tl = some (.dk kvs) ∧ kvs.length ≤ 100 ∧
    (an ≠ D ∧ an ≠ C ∧ valT kvs (.inr "names") = some (.adr an) ∧ S an = some (.lst [.str a, .str b, .str c]) ∧ lower a ∧ lower b ∧ lower c) ∧
    (al ≠ D ∧ al ≠ C ∧ valT kvs (.inr "looked") = some (.adr al) ∧ S al = some (.lst (looked.map T.str))) ∧
    (aw ≠ D ∧ aw ≠ C ∧ valT kvs (.inr "words") = some (.adr aw) ∧ S aw = some (.lst (ws.map T.str)) ∧ 1 ≤ ws.length ∧ ws.length ≤ 20 ∧ ∀ x ∈ ws, x ∈ (["if", "part", "case", "fold", "rounds", "call", "built"] : List Str)) ∧
    valT kvs (.inr "own") = some (.str own) ∧ valT kvs (.inr "faults") = some (.int f)
/-! shapes -/
def holeT (k : Kd) (ns : List (Str × Kd)) : T := .tup [.str "hole", k.t, .tup (ns.map pairT)]
def Shp (HP : Kd → List (Str × Kd) → Prop) : Nat → T → Prop
  | 0, s => ∃ k ns, s = holeT k ns ∧ HP k ns
  | j + 1, s => (∃ k ns, s = holeT k ns ∧ HP k ns) ∨ ∃ (w : Str) (sg : List Bool) (ps : List T), s = .tup (.str w :: ps) ∧ signs w = some sg ∧ Parts (Shp HP j) Pb sg ps ∧ (w = "rounds" → ∃ (a : Int) (r : List T), 0 ≤ a ∧ a ≤ 30 ∧ ps = .int a :: r)
mutual
/-- how great a filled shape may be -/
def bud : T → Nat
  | .tup xs => budH xs (buds xs + 1)
  | _ => 1
def buds : List T → Nat
  | [] => 0
  | x :: xs => bud x + buds xs
def budH : List T → Nat → Nat
  | .str w :: k :: _, n => if w = "hole" then 5 * sz k else n
  | _, n => n
end
theorem bud_tup {xs : List T} : bud (.tup xs) = budH xs (buds xs + 1) := by conv => lhs; unfold bud
theorem buds_nil : buds [] = 0 := by unfold buds; rfl
theorem buds_cons {x : T} {xs : List T} : buds (x :: xs) = bud x + buds xs := by conv => lhs; unfold buds
/-- a hole that make can fill at deep d with m levels, heights up to g -/
structure Hol (d : Int) (m g : Nat) (k : Kd) (ns : List (Str × Kd)) : Prop where
  kg : Kg d k
  kn : Knd d ns
  lv : lev d k.h ≤ m
  hg : hgt d k.h ≤ g
  few : ns.length ≤ 2
/-! asked and answered -/
def spSpots : TSp := fun ts S Q => ∃ (w : Str) (sg : List Bool) (ps : List T), ts = [.tup (.str w :: ps)] ∧ signs w = some sg ∧ ∀ (p : Addr) (S' : Sto), Ex S S' → S p = none → S' p = some (.lst ((spots 1 sg).map fun (i : Nat) => T.int (i : Int))) → Q (.adr p) S'
def spInner : TSp := fun ts S Q => ∃ (w : Str) (sg : List Bool) (ps : List T), ts = [.tup (.str w :: ps)] ∧ signs w = some sg ∧ sg.length = ps.length ∧ ∀ (p : Addr) (S' : Sto), Ex S S' → S p = none → S' p = some (.lst (inn sg ps)) → Q (.adr p) S'
def spWith : TSp := fun ts S Q => ∃ (w : Str) (sg : List Bool) (ps qs : List T) (b : Addr), ts = [.tup (.str w :: ps), .adr b] ∧ signs w = some sg ∧ sg.length = ps.length ∧ S b = some (.lst qs) ∧ qs.length = (inn sg ps).length ∧ ∀ (S' : Sto), Ex S S' → Q (.tup (.str w :: putIn sg ps qs)) S'
def spRounds (n : Nat) : TSp := fun ts S Q => ∃ (t : T) (v : Int), ts = [t, .int v] ∧ WF n t ∧ ∀ S', Ex S S' → Q (moreT v t) S'
def spLmore (n : Nat) : TSp := fun ts S Q => ∃ (t : T) (v : Int), ts = [t, .int v] ∧ Mk t ∧ t.depth < n ∧ ∀ S', Ex S S' → Q (moreT v t) S'
def spData (n : Nat) : TSp := fun ts S Q => ∃ (D C b : Addr) (opens : List Str) (d : Int), ts = [.adr D, .adr b, .int d, .bl false] ∧ Deck S D C ∧ b ≠ D ∧ b ≠ C ∧ S b = some (.lst (opens.map T.str)) ∧ (∀ x ∈ opens, lower x) ∧ 1 ≤ opens.length ∧ opens.length ≤ 8 ∧ 0 ≤ d ∧ d < n ∧
  ∀ (kd : Kd) (S' : Sto), kd.ok → (kd.h : Int) ≤ d → kd.ar = 0 → kd.m + 2 ≤ 5 * 2 ^ d.toNat → Fr D C S S' → Q (Kd.t kd) S'
def spDataF : TSp := fun ts S Q => ∃ (D C b : Addr) (opens : List Str) (m : Int), ts = [.adr D, .adr b, .int m] ∧ Deck S D C ∧ b ≠ D ∧ b ≠ C ∧ S b = some (.lst (opens.map T.str)) ∧ (∀ x ∈ opens, lower x) ∧ 1 ≤ opens.length ∧ opens.length ≤ 8 ∧ 0 ≤ m ∧ m ≤ 3 ∧
  ∀ (kd : Kd) (S' : Sto), Kg 6 kd → Fr D C S S' → Q (Kd.t kd) S'
def spArgs : TSp := fun ts S Q => ∃ kd : Kd, ts = [kd.t] ∧ kd.m ≤ 6000 ∧ ∀ (p : Addr) (S' : Sto), Ex S S' → S p = none → S' p = some (.lst (kd.args.map Kd.t)) → Q (.tup [.adr p, kd.res.t]) S'
/-- what make, own_shapes, other_shapes share: deck, tools, what is known, the kind -/
structure Gen (S : Sto) (D C tl kn : Addr) (own : Str) (ks : List (Str × Kd)) (kd : Kd) (d : Int) : Prop where
  dk : Deck S D C
  tl : Tools S D C tl own
  n1 : kn ≠ D
  n2 : kn ≠ C
  kn : S kn = some (.lst (ks.map pairT))
  kks : Knd d ks
  kg : Kg d kd
  few : ks.length ≤ 400
  d6 : d ≤ 6
/-- the part of a kind, known already: no growth -/
structure Less (d : Int) (k k0 : Kd) : Prop where
  kg : Kg d k
  lt : k.h < k0.h
def spOwn : TSp := fun ts S Q => ∃ (D C tl kn : Addr) (own : Str) (ks : List (Str × Kd)) (kd : Kd) (d : Int), ts = [.adr D, .adr tl, .adr kn, kd.t] ∧ Gen S D C tl kn own ks kd d ∧
  ∀ (p : Addr) (s0 : T) (ss : List T) (S' : Sto), Shp (fun k ns => Less d k kd ∧ Knd d ns ∧ ns.length ≤ 1) 1 s0 → bud s0 ≤ 5 * kd.m → (∀ s ∈ ss, Shp (fun k ns => Kg d k ∧ Knd d ns ∧ ns.length ≤ 1) 1 s) → ss.length ≤ 500 → Fr D C S S' → S p = none → S' p = some (.lst (s0 :: ss)) → Q (.adr p) S'
def spOther : TSp := fun ts S Q => ∃ (D C tl kn : Addr) (own : Str) (ks : List (Str × Kd)) (kd : Kd) (d : Int), ts = [.adr D, .adr tl, .adr kn, kd.t] ∧ Gen S D C tl kn own ks kd d ∧ 1 ≤ d ∧
  ∀ (p : Addr) (ss : List T) (S' : Sto), (∀ s ∈ ss, Shp (fun k ns => Kg (d - 1) k ∧ Knd (d - 1) ns ∧ ns.length ≤ 2) 2 s) → 1 ≤ ss.length → ss.length ≤ 20 → Fr D C S S' → S p = none → S' p = some (.lst ss) → Q (.adr p) S'
def spCalls : TSp := fun ts S Q => ∃ (kn : Addr) (ks : List (Str × Kd)) (kd : Kd) (d : Int), ts = [.adr kn, kd.t] ∧ S kn = some (.lst (ks.map pairT)) ∧ ks.length ≤ 400 ∧ Knd d ks ∧ Kg d kd ∧
  ∀ (p : Addr) (ss : List T) (S' : Sto), (∀ s ∈ ss, Shp (fun k ns => Kg d k ∧ ns = []) 4 s) → ss.length ≤ 400 → Ex S S' → S p = none → S' p = some (.lst ss) → Q (.adr p) S'
def spMake (n : Nat) : TSp := fun ts S Q => ∃ (D C tl kn : Addr) (own : Str) (ks : List (Str × Kd)) (kd : Kd) (d : Int), ts = [.adr D, .adr tl, .adr kn, kd.t, .int d] ∧ Gen S D C tl kn own ks kd d ∧ lev d kd.h ≤ n ∧ ks.length + 2 * lev d kd.h ≤ 400 ∧
  ∀ (t : T) (S' : Sto), WF (hgt d kd.h) t → (d ≤ -2 → sz t ≤ 5 * kd.m) → Fr D C S S' → Q t S'
def spFilled (n : Nat) : TSp := fun ts S Q => ∃ (D C tl kn : Addr) (own : Str) (ks : List (Str × Kd)) (s : T) (d : Int), ts = [.adr D, .adr tl, .adr kn, s, .int d] ∧ Gen S D C tl kn own ks .num d ∧
  ((Pb s ∧ s.depth < n ∧ ∀ S', Fr D C S S' → Q s S') ∨
   ∃ m g j : Nat, Shp (Hol d m g) j s ∧ 33 ≤ m ∧ j + 1 + m ≤ n ∧ ks.length + 2 + 2 * m ≤ 400 ∧ ∀ (t : T) (S' : Sto), WF (g + j) t → (d ≤ -2 → sz t ≤ bud s) → Fr D C S S' → Q t S')
def spMeasured (n : Nat) : TSp := fun ts S Q => ∃ t : T, ts = [t] ∧ WF n t ∧ ∀ (a b : Nat) (S' : Sto), WF b t → sz t ≤ 20900 * a → 1 ≤ a → 1 ≤ b → Ex S S' → Q (.tup [.int a, .int b]) S'
/-- a term that the law asks about -/
def TermOk (t : T) : Prop := WF 20 t ∧ sz t ≤ 1254000
def spTerm : TSp := fun ts S Q => ∃ (D C tl kn : Addr) (own : Str) (kd : Kd), ts = [.adr D, .adr tl, .adr kn, kd.t, .int 6] ∧ Gen S D C tl kn own [] kd 6 ∧
  ∀ (t : T) (S' : Sto), TermOk t → Deck S' D C → (∀ a o, a ≠ D → a ≠ C → a ≠ tl → S a = some o → S' a = some o) → Q t S'
def spTools : TSp := fun ts S Q => ∃ (D C nm lk wd : Addr) (xs lks ws : List Str) (own : Str) (f : Int), ts = [.adr nm, .adr lk, .int f, .adr wd] ∧ Deck S D C ∧ nm ≠ D ∧ nm ≠ C ∧ lk ≠ D ∧ lk ≠ C ∧ wd ≠ D ∧ wd ≠ C ∧ S nm = some (.lst (xs.map T.str)) ∧ xs.length = 6 ∧ (∀ x ∈ xs, lower x) ∧ S lk = some (.lst (lks.map T.str)) ∧
  S wd = some (.lst (ws.map T.str)) ∧ 1 ≤ ws.length ∧ ws.length ≤ 20 ∧ (∀ x ∈ ws, x ∈ (["if", "part", "case", "fold", "rounds", "call", "built"] : List Str)) ∧
  ∀ (tl : Addr) (S' : Sto), S tl = none → (∃ own, Tools S' D C tl own) → Ex S S' → Q (.adr tl) S'
def spTower : TSp := fun ts S Q => ∃ (D C b : Addr) (xs : List Str), ts = [.adr D, .adr b] ∧ Deck S D C ∧ b ≠ D ∧ b ≠ C ∧ S b = some (.lst (xs.map T.str)) ∧ xs.length = 6 ∧ (∀ x ∈ xs, lower x) ∧ ∀ (t : T) (S' : Sto), TermOk t → Fr D C S S' → Q t S'
def spRight : TSp := fun ts S Q => ∃ (t : T) (v : Int), ts = [t, .int v] ∧ TermOk t ∧ 0 ≤ v ∧ v < 10 ^ 30 ∧ ∀ S', Ex S S' → Q (.bl true) S'
end LAW
set_option Elab.async false
set_option linter.all false
set_option maxRecDepth 100000
set_option maxHeartbeats 4000000
/-! printed by pr.py: readings and derivations of defs. -/
namespace LAW
open PySem PySem.Spec PyProof.Rows L2 TL
def top (i : Nat) : Stmt := PySem.Challenge.pw_kindalone_k76_more_rounds_in_terms.main.body.getD i (.Pass ⟨0, 0, 0, 0⟩)
theorem ru {A : Around} {k : Nat} (hr : Room k A) : A.units + 200 < cLine := by have := hr.un; omega
/-! term_spots -/
abbrev st_term_spots : Stmt := top 2
abbrev N_term_spots : List Str := ["term", "at", "sign"]
abbrev P_term_spots : List Str := ["term"]
theorem nd_term_spots : (N_term_spots).Nodup := by decide +kernel
theorem sc_term_spots : FnScope N_term_spots P_term_spots (defScope st_term_spots) := ⟨rfl, rfl, rfl, nd_term_spots, rfl, by decide +kernel, by decide +kernel⟩
def t_term_spots : TTS := (tsRet (tlc (tiEnumS (tac (tixK formsF (tb oIx (tv 0) (tc (.int 0)))) tan)) (btN [1, 2]) (tq (tb oEq (tv 2) (tc (.str "t")))) (tb oAdd (tv 1) (tc (.int 1))) [1, 2]))
theorem b_term_spots {P : Program} {w : World} {K : PySem.W.Frag} {mg : Str → Option Value} {base : Heap} {f : Addr} {cdv : Value} {A : Around} {outer : List Env} {s : Shared} {H : Hp} {E : XK} {k : Nat}
    (hr : Room k (A.deeper (envOfC "term_spots" (defScope st_term_spots) s.heap.objs.size f cdv))) (hgd : (A.deeper (envOfC "term_spots" (defScope st_term_spots) s.heap.objs.size f cdv)).guards = some []) (n_enumerate : mg "enumerate" = none) {u_FORMS : Value} (m_FORMS : mg "FORMS" = some u_FORMS) (D_FORMS : KDt ⟨P, w, K⟩ u_FORMS formsF) :
    QSs (cxOf CX0 P w K mg base N_term_spots "term_spots" (defScope st_term_spots) f cdv A outer s H E).nox (defBody st_term_spots) t_term_spots :=
  (s_one (s_ret (q_lc (own := [("at", 1), ("sign", 2)]) rfl nd_term_spots (i_enumS rfl n_enumerate (qa_cons (q_ixK rfl m_FORMS D_FORMS (q_ix (ru hr) (qv 0) qc_int)) qa_nil)) (blkOk_by (own := [("at", 1), ("sign", 2)]) (N := N_term_spots) (sc := defScope st_term_spots) (by decide +kernel)) (tbindN (n := 2) rfl) (fun _ _ _ _ _ => pg_tup (n := 2) rfl (pgs_cons (pg_name (i := 1) nd_term_spots rfl (by first | exact Or.inl rfl | exact Or.inr rfl)) (pgs_cons (pg_name (i := 2) nd_term_spots rfl (by first | exact Or.inl rfl | exact Or.inr rfl)) pgs_nil))) (fun _ _ _ _ _ => ts_one (t_eq (ru hr) (qv 2) qc_str)) (fun _ _ _ _ _ => (q_add (qv 1) qc_int)))))
/-! inner_terms -/
abbrev st_inner_terms : Stmt := top 3
abbrev N_inner_terms : List Str := ["term", "at"]
abbrev P_inner_terms : List Str := ["term"]
theorem nd_inner_terms : (N_inner_terms).Nodup := by decide +kernel
theorem sc_inner_terms : FnScope N_inner_terms P_inner_terms (defScope st_inner_terms) := ⟨rfl, rfl, rfl, nd_inner_terms, rfl, by decide +kernel, by decide +kernel⟩
def t_inner_terms : TTS := (tsRet (tlc (tiSeq (tcall 1 spSpots (tac (tv 0) tan))) (bt1 1) ttYes (tb oIx (tv 0) (tv 1)) [1]))
theorem b_inner_terms {P : Program} {w : World} {K : PySem.W.Frag} {mg : Str → Option Value} {base : Heap} {f : Addr} {cdv : Value} {A : Around} {outer : List Env} {s : Shared} {H : Hp} {E : XK} {k : Nat}
    (hr : Room k (A.deeper (envOfC "inner_terms" (defScope st_inner_terms) s.heap.objs.size f cdv))) (hgd : (A.deeper (envOfC "inner_terms" (defScope st_inner_terms) s.heap.objs.size f cdv)).guards = some []) (c_term_spots : Cal P w K mg base k "term_spots" 1 spSpots) :
    QSs (cxOf CX0 P w K mg base N_inner_terms "inner_terms" (defScope st_inner_terms) f cdv A outer s H E).nox (defBody st_inner_terms) t_inner_terms :=
  (s_one (s_ret (q_lc (own := [("at", 1)]) rfl nd_inner_terms (i_seq (q_call c_term_spots hr hgd rfl (qa_cons (qv 0) qa_nil))) (blkOk_by (own := [("at", 1)]) (N := N_inner_terms) (sc := defScope st_inner_terms) (by decide +kernel)) (tbind1 (i := 1)) (fun _ _ _ _ _ => pg_name (i := 1) nd_inner_terms rfl (by first | exact Or.inl rfl | exact Or.inr rfl)) (fun _ _ _ _ _ => ts_nil) (fun _ _ _ _ _ => (q_ix (ru hr) (qv 0) (qv 1))))))
/-! with_inner -/
abbrev st_with_inner : Stmt := top 4
abbrev N_with_inner : List Str := ["term", "some", "found", "at", "inner"]
abbrev P_with_inner : List Str := ["term", "some"]
theorem nd_with_inner : (N_with_inner).Nodup := by decide +kernel
theorem sc_with_inner : FnScope N_with_inner P_with_inner (defScope st_with_inner) := ⟨rfl, rfl, rfl, nd_with_inner, rfl, by decide +kernel, by decide +kernel⟩
def t_with_inner : TTS := (tsSeq (tsAsg (tbi oLst (tac (tv 0) tan)) (tgN 2)) (tsSeq (tsFor (tiZip (tac (tcall 1 spSpots (tac (tv 0) tan)) (tac (tv 1) tan))) (tgTup 2 (tgsCons (tgN 3) (tgsCons (tgN 4) tgsNil))) (tsAsg (tv 4) (tgSub (tv 2) (tv 3)))) (tsRet (tbi oTup (tac (tv 2) tan)))))
theorem b_with_inner {P : Program} {w : World} {K : PySem.W.Frag} {mg : Str → Option Value} {base : Heap} {f : Addr} {cdv : Value} {A : Around} {outer : List Env} {s : Shared} {H : Hp} {E : XK} {k : Nat}
    (hr : Room k (A.deeper (envOfC "with_inner" (defScope st_with_inner) s.heap.objs.size f cdv))) (hgd : (A.deeper (envOfC "with_inner" (defScope st_with_inner) s.heap.objs.size f cdv)).guards = some []) (c_term_spots : Cal P w K mg base k "term_spots" 1 spSpots) (n_list : mg "list" = none) (n_tuple : mg "tuple" = none) (n_zip : mg "zip" = none) :
    QSs (cxOf CX0 P w K mg base N_with_inner "with_inner" (defScope st_with_inner) f cdv A outer s H E).nox (defBody st_with_inner) t_with_inner :=
  (s_cons (s_set (i := 2) nd_with_inner rfl (by first | exact Or.inl rfl | exact Or.inr rfl) (q_list rfl n_list (qa_cons (qv 0) qa_nil))) (s_cons (s_for PassesOwn.never rfl (i_zip rfl n_zip (qa_cons (q_call c_term_spots hr hgd rfl (qa_cons (qv 0) qa_nil)) (qa_cons (qv 1) qa_nil))) (g_tup (n := 2) rfl (gs_cons (g_name (i := 3) nd_with_inner rfl (by first | exact Or.inl rfl | exact Or.inr rfl)) (gs_cons (g_name (i := 4) nd_with_inner rfl (by first | exact Or.inl rfl | exact Or.inr rfl)) gs_nil))) (s_one (s_asg (qv 4) (g_sub (ru hr) (qv 2) (qv 3))))) (s_one (s_ret (q_tuple rfl n_tuple (qa_cons (qv 2) qa_nil))))))
/-! more_rounds -/
abbrev st_more_rounds : Stmt := top 7
abbrev N_more_rounds : List Str := ["term", "by", "found", "one"]
abbrev P_more_rounds : List Str := ["term", "by"]
theorem nd_more_rounds : (N_more_rounds).Nodup := by decide +kernel
theorem sc_more_rounds : FnScope N_more_rounds P_more_rounds (defScope st_more_rounds) := ⟨rfl, rfl, rfl, nd_more_rounds, rfl, by decide +kernel, by decide +kernel⟩
def t_more_rounds (n : Nat) : TTS := (tsSeq (tsAsg (tcall 2 spWith (tac (tv 0) (tac (tlc (tiSeq (tcall 1 spInner (tac (tv 0) tan))) (bt1 3) ttYes (tcall 2 (spRounds n) (tac (tv 3) (tac (tv 1) tan))) [3]) tan))) (tgN 2)) (tsSeq (tsIf (tq (tb oEq (tb oIx (tv 2) (tc (.int 0))) (tc (.str "rounds")))) (tsRet (tb oAdd (ttup (tac (tc (.str "rounds")) (tac (tbi oMin2 (tac (tc (.int 30)) (tac (tb oAdd (tb oIx (tv 2) (tc (.int 1))) (tv 1)) tan))) tan))) (tsl (tv 2) (tpt (tc (.int 2))) tno))) tsNx) (tsRet (tv 2))))
theorem b_more_rounds {P : Program} {w : World} {K : PySem.W.Frag} {mg : Str → Option Value} {base : Heap} {f : Addr} {cdv : Value} {A : Around} {outer : List Env} {s : Shared} {H : Hp} {E : XK} {k : Nat} {n : Nat}
    (hr : Room k (A.deeper (envOfC "more_rounds" (defScope st_more_rounds) s.heap.objs.size f cdv))) (hgd : (A.deeper (envOfC "more_rounds" (defScope st_more_rounds) s.heap.objs.size f cdv)).guards = some []) (c_with_inner : Cal P w K mg base k "with_inner" 2 spWith) (c_inner_terms : Cal P w K mg base k "inner_terms" 1 spInner) (c_more_rounds : Cal P w K mg base k "more_rounds" 2 (spRounds n)) (n_min : mg "min" = none) {u_MOST_ROUNDS : Value} (m_MOST_ROUNDS : mg "MOST_ROUNDS" = some u_MOST_ROUNDS) (G_MOST_ROUNDS : Glo ⟨P, w, K⟩ u_MOST_ROUNDS (.int 30)) :
    QSs (cxOf CX0 P w K mg base N_more_rounds "more_rounds" (defScope st_more_rounds) f cdv A outer s H E).nox (defBody st_more_rounds) (t_more_rounds n) :=
  (s_cons (s_set (i := 2) nd_more_rounds rfl (by first | exact Or.inl rfl | exact Or.inr rfl) (q_call c_with_inner hr hgd rfl (qa_cons (qv 0) (qa_cons (q_lc (own := [("one", 3)]) rfl nd_more_rounds (i_seq (q_call c_inner_terms hr hgd rfl (qa_cons (qv 0) qa_nil))) (blkOk_by (own := [("one", 3)]) (N := N_more_rounds) (sc := defScope st_more_rounds) (by decide +kernel)) (tbind1 (i := 3)) (fun _ _ _ _ _ => pg_name (i := 3) nd_more_rounds rfl (by first | exact Or.inl rfl | exact Or.inr rfl)) (fun _ _ _ _ _ => ts_nil) (fun _ _ _ _ _ => (q_call c_more_rounds hr hgd rfl (qa_cons (qv 3) (qa_cons (qv 1) qa_nil))))) qa_nil)))) (s_cons (s_if (t_eq (ru hr) (q_ix (ru hr) (qv 2) qc_int) qc_str) (s_one (s_ret (q_add (q_tup (qa_cons qc_str (qa_cons (q_min2 rfl rfl n_min (qa_cons (qc_glo rfl m_MOST_ROUNDS G_MOST_ROUNDS) (qa_cons (q_add (q_ix (ru hr) (qv 2) qc_int) (qv 1)) qa_nil))) qa_nil))) (q_sl (qv 2) (qo_some qc_int) qo_none)))) s_nil) (s_one (s_ret (qv 2)))))
/-! _law_deck -/
abbrev st_Ldeck : Stmt := top 9
abbrev N_Ldeck : List Str := ["_law_script", "_law_cells"]
abbrev P_Ldeck : List Str := ["_law_script"]
theorem nd_Ldeck : (N_Ldeck).Nodup := by decide +kernel
theorem sc_Ldeck : FnScope N_Ldeck P_Ldeck (defScope st_Ldeck) := ⟨rfl, rfl, rfl, nd_Ldeck, rfl, by decide +kernel, by decide +kernel⟩
def t_Ldeck : TTS := (tsSeq (tsAsg (tlRev (tsl (tv 0) tno (tpt (tc (.int 63))))) (tgN 1)) (tsRet (tlst (tac (tv 1) (tac (tb oAdd (tb oMod (tbi oSum (tac (tv 1) tan)) (tc (.int 2147483629))) (tb oMul (tc (.int 48271)) (tbi oLen (tac (tv 1) tan)))) (tac (tc (.int 0)) tan))))))
theorem b_Ldeck {P : Program} {w : World} {K : PySem.W.Frag} {mg : Str → Option Value} {base : Heap} {f : Addr} {cdv : Value} {A : Around} {outer : List Env} {s : Shared} {H : Hp} {E : XK} {k : Nat}
    (hr : Room k (A.deeper (envOfC "_law_deck" (defScope st_Ldeck) s.heap.objs.size f cdv))) (hgd : (A.deeper (envOfC "_law_deck" (defScope st_Ldeck) s.heap.objs.size f cdv)).guards = some []) (n_len : mg "len" = none) (n_list : mg "list" = none) (n_reversed : mg "reversed" = none) (n_sum : mg "sum" = none) :
    QSs (cxOf CX0 P w K mg base N_Ldeck "_law_deck" (defScope st_Ldeck) f cdv A outer s H E).nox (defBody st_Ldeck) t_Ldeck :=
  (s_cons (s_set (i := 1) nd_Ldeck rfl (by first | exact Or.inl rfl | exact Or.inr rfl) (q_lstRev rfl rfl n_list rfl n_reversed (q_sl (qv 0) qo_none (qo_some qc_int)))) (s_one (s_ret (q_lst (qa_cons (qv 1) (qa_cons (q_add (q_mod (q_sum rfl rfl n_sum (qa_cons (qv 1) qa_nil)) qc_int) (q_mul qc_int (q_len rfl n_len (qa_cons (qv 1) qa_nil)))) (qa_cons qc_int qa_nil)))))))
/-! _law_draw -/
abbrev st_Ldraw : Stmt := top 10
abbrev N_Ldraw : List Str := ["_law_deck_here", "_law_most", "_law_cell", "_law_number"]
abbrev P_Ldraw : List Str := ["_law_deck_here", "_law_most"]
theorem nd_Ldraw : (N_Ldraw).Nodup := by decide +kernel
theorem sc_Ldraw : FnScope N_Ldraw P_Ldraw (defScope st_Ldraw) := ⟨rfl, rfl, rfl, nd_Ldraw, rfl, by decide +kernel, by decide +kernel⟩
def t_Ldraw : TTS := (tsSeq (tsAsg (tb oAdd (tb oIx (tv 0) (tc (.int 2))) (tc (.int 1))) (tgSub (tv 0) (tc (.int 2)))) (tsSeq (tsAsg (tife (tq (tb oEq (tb oIx (tv 0) (tc (.int 0))) (tlst tan))) (tb oIx (tv 0) (tc (.int 1))) (tml0 oPop0 (tb oIx (tv 0) (tc (.int 0))))) (tgN 2)) (tsSeq (tsIf (tq (tb oGe (tv 2) (tb oPow (tc (.int 10)) (tc (.int 18))))) (tsSeq (tsDrop (tml oAppend (tb oIx (tv 0) (tc (.int 0))) (tb oDiv (tv 2) (tv 1)))) (tsRet (tb oMod (tv 2) (tv 1)))) tsNx) (tsSeq (tsAsg (tb oMod (tb oMul (tb oAdd (tb oAdd (tb oMod (tv 2) (tc (.int 2147483629))) (tb oMul (tc (.int 104729)) (tb oIx (tv 0) (tc (.int 2))))) (tc (.int 1))) (tc (.int 48271))) (tc (.int 2147483647))) (tgN 3)) (tsSeq (tsAsg (tb oMod (tb oAdd (tb oAdd (tb oMul (tv 3) (tv 3)) (tb oMul (tc (.int 69621)) (tb oIx (tv 0) (tc (.int 2))))) (tc (.int 7))) (tc (.int 2147483587))) (tgN 3)) (tsRet (tb oMod (tb oDiv (tb oMod (tb oMul (tv 3) (tb oAdd (tb oDiv (tv 3) (tc (.int 3))) (tc (.int 39373)))) (tc (.int 2305843009213693951))) (tc (.int 128))) (tv 1))))))))
theorem b_Ldraw {P : Program} {w : World} {K : PySem.W.Frag} {mg : Str → Option Value} {base : Heap} {f : Addr} {cdv : Value} {A : Around} {outer : List Env} {s : Shared} {H : Hp} {E : XK} {k : Nat}
    (hr : Room k (A.deeper (envOfC "_law_draw" (defScope st_Ldraw) s.heap.objs.size f cdv))) (hgd : (A.deeper (envOfC "_law_draw" (defScope st_Ldraw) s.heap.objs.size f cdv)).guards = some []) :
    QSs (cxOf CX0 P w K mg base N_Ldraw "_law_draw" (defScope st_Ldraw) f cdv A outer s H E).nox (defBody st_Ldraw) t_Ldraw :=
  (s_cons (s_asg (q_add (q_ix (ru hr) (qv 0) qc_int) qc_int) (g_sub (ru hr) (qv 0) qc_int)) (s_cons (s_set (i := 2) nd_Ldraw rfl (by first | exact Or.inl rfl | exact Or.inr rfl) (q_ife (t_eq (ru hr) (q_ix (ru hr) (qv 0) qc_int) (q_lst qa_nil)) (q_ix (ru hr) (qv 0) qc_int) (q_pop0 (q_ix (ru hr) (qv 0) qc_int)))) (s_cons (s_if (t_ge (qv 2) (q_pow qc_int qc_int)) (s_cons (s_expr (q_append (q_ix (ru hr) (qv 0) qc_int) (q_div (qv 2) (qv 1)))) (s_one (s_ret (q_mod (qv 2) (qv 1))))) s_nil) (s_cons (s_set (i := 3) nd_Ldraw rfl (by first | exact Or.inl rfl | exact Or.inr rfl) (q_mod (q_mul (q_add (q_add (q_mod (qv 2) qc_int) (q_mul qc_int (q_ix (ru hr) (qv 0) qc_int))) qc_int) qc_int) qc_int)) (s_cons (s_set (i := 3) nd_Ldraw rfl (by first | exact Or.inl rfl | exact Or.inr rfl) (q_mod (q_add (q_add (q_mul (qv 3) (qv 3)) (q_mul qc_int (q_ix (ru hr) (qv 0) qc_int))) qc_int) qc_int)) (s_one (s_ret (q_mod (q_div (q_mod (q_mul (qv 3) (q_add (q_div (qv 3) qc_int) qc_int)) qc_int) qc_int) (qv 1)))))))))
/-! _law_pick -/
abbrev st_Lpick : Stmt := top 11
abbrev N_Lpick : List Str := ["_law_deck_here", "_law_some"]
abbrev P_Lpick : List Str := ["_law_deck_here", "_law_some"]
theorem nd_Lpick : (N_Lpick).Nodup := by decide +kernel
theorem sc_Lpick : FnScope N_Lpick P_Lpick (defScope st_Lpick) := ⟨rfl, rfl, rfl, nd_Lpick, rfl, by decide +kernel, by decide +kernel⟩
def t_Lpick : TTS := (tsRet (tb oIx (tv 1) (tcall 2 spDraw (tac (tv 0) (tac (tbi oLen (tac (tv 1) tan)) tan)))))
theorem b_Lpick {P : Program} {w : World} {K : PySem.W.Frag} {mg : Str → Option Value} {base : Heap} {f : Addr} {cdv : Value} {A : Around} {outer : List Env} {s : Shared} {H : Hp} {E : XK} {k : Nat}
    (hr : Room k (A.deeper (envOfC "_law_pick" (defScope st_Lpick) s.heap.objs.size f cdv))) (hgd : (A.deeper (envOfC "_law_pick" (defScope st_Lpick) s.heap.objs.size f cdv)).guards = some []) (c_Ldraw : Cal P w K mg base k "_law_draw" 2 spDraw) (n_len : mg "len" = none) :
    QSs (cxOf CX0 P w K mg base N_Lpick "_law_pick" (defScope st_Lpick) f cdv A outer s H E).nox (defBody st_Lpick) t_Lpick :=
  (s_one (s_ret (q_ix (ru hr) (qv 1) (q_call c_Ldraw hr hgd rfl (qa_cons (qv 0) (qa_cons (q_len rfl n_len (qa_cons (qv 1) qa_nil)) qa_nil))))))
/-! _law_names -/
abbrev st_Lnames : Stmt := top 12
abbrev N_Lnames : List Str := ["_law_deck_here", "_law_many", "_law_letters", "_law_word", "_law_at", "_law_found", "_law_k", "_law_sign"]
abbrev P_Lnames : List Str := ["_law_deck_here", "_law_many"]
theorem nd_Lnames : (N_Lnames).Nodup := by decide +kernel
theorem sc_Lnames : FnScope N_Lnames P_Lnames (defScope st_Lnames) := ⟨rfl, rfl, rfl, nd_Lnames, rfl, by decide +kernel, by decide +kernel⟩
def t_Lnames : TTS := (tsSeq (tsAsg (tc (.str "abcdefghijklmnopqrstuvwxyz")) (tgN 2)) (tsSeq (tsAsg (tlc (tiRng1 (tac (tb oAdd (tc (.int 1)) (tcall 2 spDraw (tac (tv 0) (tac (tc (.int 8)) tan)))) tan)) (bt1 6) ttYes (tcall 2 spDraw (tac (tv 0) (tac (tc (.int 26)) tan))) [6]) (tgN 3)) (tsSeq (tsAsg (tcall 2 spDraw (tac (tv 0) (tac (tbi oLen (tac (tv 3) tan)) tan))) (tgN 4)) (tsSeq (tsAsg (tlst tan) (tgN 5)) (tsSeq (tsFor (tiRng1 (tac (tv 1) tan)) (tgN 6) (tsSeq (tsAsg (tb oMod (tb oAdd (tb oIx (tv 3) (tv 4)) (tc (.int 1))) (tc (.int 26))) (tgSub (tv 3) (tv 4))) (tsDrop (tml oAppend (tv 5) (tmj oJoin (tc (.str "")) (tlc (tiSeq (tv 3)) (bt1 7) ttYes (tb oIx (tv 2) (tv 7)) [7])))))) (tsRet (tv 5)))))))
theorem b_Lnames {P : Program} {w : World} {K : PySem.W.Frag} {mg : Str → Option Value} {base : Heap} {f : Addr} {cdv : Value} {A : Around} {outer : List Env} {s : Shared} {H : Hp} {E : XK} {k : Nat}
    (hr : Room k (A.deeper (envOfC "_law_names" (defScope st_Lnames) s.heap.objs.size f cdv))) (hgd : (A.deeper (envOfC "_law_names" (defScope st_Lnames) s.heap.objs.size f cdv)).guards = some []) (c_Ldraw : Cal P w K mg base k "_law_draw" 2 spDraw) (n_len : mg "len" = none) (n_range : mg "range" = none) :
    QSs (cxOf CX0 P w K mg base N_Lnames "_law_names" (defScope st_Lnames) f cdv A outer s H E).nox (defBody st_Lnames) t_Lnames :=
  (s_cons (s_set (i := 2) nd_Lnames rfl (by first | exact Or.inl rfl | exact Or.inr rfl) qc_str) (s_cons (s_setLc (own := [("_law_k", 6)]) (i := 3) rfl nd_Lnames rfl rfl (sw_true rfl rfl rfl (by decide +kernel)) (i_range1 rfl n_range (qa_cons (q_add qc_int (q_call c_Ldraw hr hgd rfl (qa_cons (qv 0) (qa_cons qc_int qa_nil)))) qa_nil)) (blkOk_by (own := [("_law_k", 6)]) (N := N_Lnames) (sc := defScope st_Lnames) (by decide +kernel)) (tbind1 (i := 6)) (fun _ _ _ _ _ => pg_name (i := 6) nd_Lnames rfl (by first | exact Or.inl rfl | exact Or.inr rfl)) (fun _ _ _ _ _ => ts_nil) (fun _ _ _ _ _ => (q_call c_Ldraw hr hgd rfl (qa_cons (qv 0) (qa_cons qc_int qa_nil))))) (s_cons (s_set (i := 4) nd_Lnames rfl (by first | exact Or.inl rfl | exact Or.inr rfl) (q_call c_Ldraw hr hgd rfl (qa_cons (qv 0) (qa_cons (q_len rfl n_len (qa_cons (qv 3) qa_nil)) qa_nil)))) (s_cons (s_set (i := 5) nd_Lnames rfl (by first | exact Or.inl rfl | exact Or.inr rfl) (q_lst qa_nil)) (s_cons (s_for PassesOwn.never rfl (i_range1 rfl n_range (qa_cons (qv 1) qa_nil)) (g_name (i := 6) nd_Lnames rfl (by first | exact Or.inl rfl | exact Or.inr rfl)) (s_cons (s_asg (q_mod (q_add (q_ix (ru hr) (qv 3) (qv 4)) qc_int) qc_int) (g_sub (ru hr) (qv 3) (qv 4))) (s_one (s_expr (q_append (qv 5) (q_join qc_str (q_lc (own := [("_law_sign", 7)]) rfl nd_Lnames (i_seq (qv 3)) (blkOk_by (own := [("_law_sign", 7)]) (N := N_Lnames) (sc := defScope st_Lnames) (by decide +kernel)) (tbind1 (i := 7)) (fun _ _ _ _ _ => pg_name (i := 7) nd_Lnames rfl (by first | exact Or.inl rfl | exact Or.inr rfl)) (fun _ _ _ _ _ => ts_nil) (fun _ _ _ _ _ => (q_ix (ru hr) (qv 2) (qv 7)))))))))) (s_one (s_ret (qv 5))))))))
/-! _law_data -/
abbrev st_Ldata : Stmt := top 13
abbrev N_Ldata : List Str := ["_law_deck_here", "_law_opens", "_law_deep", "_law_small", "_law_way", "_law_first"]
abbrev P_Ldata : List Str := ["_law_deck_here", "_law_opens", "_law_deep", "_law_small"]
theorem nd_Ldata : (N_Ldata).Nodup := by decide +kernel
theorem sc_Ldata : FnScope N_Ldata P_Ldata (defScope st_Ldata) := ⟨rfl, rfl, rfl, nd_Ldata, rfl, by decide +kernel, by decide +kernel⟩
def t_Ldata (n : Nat) : TTS := (tsSeq (tsAsg (tcall 2 spDraw (tac (tv 0) (tac (tb oIx (tlst (tac (tc (.int 10)) (tac (tc (.int 8)) tan))) (tbi oInt (tac (tv 3) tan))) tan))) (tgN 4)) (tsSeq (tsIf (tand (tq (tb oLt (tv 4) (tc (.int 4)))) (tq (tb oNe (tv 1) (tlst tan)))) (tsRet (ttup (tac (tc (.str "open")) (tac (tcall 2 spPick (tac (tv 0) (tac (tv 1) tan))) tan)))) tsNx) (tsSeq (tsIf (tor (tq (tb oEq (tv 2) (tc (.int 0)))) (tq (tb oLt (tv 4) (tc (.int 6))))) (tsRet (tcall 2 spPick (tac (tv 0) (tac (tlst (tac (ttup (tac (tc (.str "truth")) tan)) (tac (tb oIx (tlst (tac (ttup (tac (tc (.str "num")) tan)) (tac (ttup (tac (tc (.str "truth")) tan)) tan))) (tbi oInt (tac (tv 3) tan))) tan))) tan)))) tsNx) (tsSeq (tsIf (tq (tb oGt (tv 4) (tc (.int 7)))) (tsRet (ttup (tac (tc (.str "list")) (tac (tcall 4 (spData n) (tac (tv 0) (tac (tv 1) (tac (tb oSub (tv 2) (tc (.int 1))) (tac (tv 3) tan))))) tan)))) tsNx) (tsSeq (tsAsg (tcall 4 (spData n) (tac (tv 0) (tac (tv 1) (tac (tb oSub (tv 2) (tc (.int 1))) (tac (tv 3) tan))))) (tgN 5)) (tsRet (ttup (tac (tb oIx (tlst (tac (tc (.str "pair")) (tac (tc (.str "either")) tan))) (tb oSub (tv 4) (tc (.int 6)))) (tac (tv 5) (tac (tcall 4 (spData n) (tac (tv 0) (tac (tv 1) (tac (tb oSub (tv 2) (tc (.int 1))) (tac (tv 3) tan))))) tan))))))))))
theorem b_Ldata {P : Program} {w : World} {K : PySem.W.Frag} {mg : Str → Option Value} {base : Heap} {f : Addr} {cdv : Value} {A : Around} {outer : List Env} {s : Shared} {H : Hp} {E : XK} {k : Nat} {n : Nat}
    (hr : Room k (A.deeper (envOfC "_law_data" (defScope st_Ldata) s.heap.objs.size f cdv))) (hgd : (A.deeper (envOfC "_law_data" (defScope st_Ldata) s.heap.objs.size f cdv)).guards = some []) (c_Ldata : Cal P w K mg base k "_law_data" 4 (spData n)) (c_Lpick : Cal P w K mg base k "_law_pick" 2 spPick) (c_Ldraw : Cal P w K mg base k "_law_draw" 2 spDraw) (n_int : mg "int" = none) :
    QSs (cxOf CX0 P w K mg base N_Ldata "_law_data" (defScope st_Ldata) f cdv A outer s H E).nox (defBody st_Ldata) (t_Ldata n) :=
  (s_cons (s_set (i := 4) nd_Ldata rfl (by first | exact Or.inl rfl | exact Or.inr rfl) (q_call c_Ldraw hr hgd rfl (qa_cons (qv 0) (qa_cons (q_ix (ru hr) (q_lst (qa_cons qc_int (qa_cons qc_int qa_nil))) (q_int rfl n_int (qa_cons (qv 3) qa_nil))) qa_nil)))) (s_cons (s_if (t_w (w_and (t_lt (qv 4) qc_int) (w_and1 (t_ne (ru hr) (qv 1) (q_lst qa_nil))))) (s_one (s_ret (q_tup (qa_cons qc_str (qa_cons (q_call c_Lpick hr hgd rfl (qa_cons (qv 0) (qa_cons (qv 1) qa_nil))) qa_nil))))) s_nil) (s_cons (s_if (t_w (w_or (t_eq (ru hr) (qv 2) qc_int) (w_or1 (t_lt (qv 4) qc_int)))) (s_one (s_ret (q_call c_Lpick hr hgd rfl (qa_cons (qv 0) (qa_cons (q_lst (qa_cons (q_tup (qa_cons qc_str qa_nil)) (qa_cons (q_ix (ru hr) (q_lst (qa_cons (q_tup (qa_cons qc_str qa_nil)) (qa_cons (q_tup (qa_cons qc_str qa_nil)) qa_nil))) (q_int rfl n_int (qa_cons (qv 3) qa_nil))) qa_nil))) qa_nil))))) s_nil) (s_cons (s_if (t_gt (qv 4) qc_int) (s_one (s_ret (q_tup (qa_cons qc_str (qa_cons (q_call c_Ldata hr hgd rfl (qa_cons (qv 0) (qa_cons (qv 1) (qa_cons (q_sub (qv 2) qc_int) (qa_cons (qv 3) qa_nil))))) qa_nil))))) s_nil) (s_cons (s_set (i := 5) nd_Ldata rfl (by first | exact Or.inl rfl | exact Or.inr rfl) (q_call c_Ldata hr hgd rfl (qa_cons (qv 0) (qa_cons (qv 1) (qa_cons (q_sub (qv 2) qc_int) (qa_cons (qv 3) qa_nil)))))) (s_one (s_ret (q_tup (qa_cons (q_ix (ru hr) (q_lst (qa_cons qc_str (qa_cons qc_str qa_nil))) (q_sub (qv 4) qc_int)) (qa_cons (qv 5) (qa_cons (q_call c_Ldata hr hgd rfl (qa_cons (qv 0) (qa_cons (qv 1) (qa_cons (q_sub (qv 2) qc_int) (qa_cons (qv 3) qa_nil))))) qa_nil)))))))))))
/-! _law_arguments -/
abbrev st_Larguments : Stmt := top 14
abbrev N_Larguments : List Str := ["_law_kind", "_law_found"]
abbrev P_Larguments : List Str := ["_law_kind"]
theorem nd_Larguments : (N_Larguments).Nodup := by decide +kernel
theorem sc_Larguments : FnScope N_Larguments P_Larguments (defScope st_Larguments) := ⟨rfl, rfl, rfl, nd_Larguments, rfl, by decide +kernel, by decide +kernel⟩
def t_Larguments : TTS := (tsSeq (tsAsg (tlst tan) (tgN 1)) (tsSeq (tsWhile (tq (tb oEq (tb oIx (tv 0) (tc (.int 0))) (tc (.str "fun")))) (tsSeq (tsDrop (tml oAppend (tv 1) (tb oIx (tv 0) (tc (.int 1))))) (tsAsg (tb oIx (tv 0) (tc (.int 2))) (tgN 0)))) (tsRet (ttup (tac (tv 1) (tac (tv 0) tan))))))
theorem b_Larguments {P : Program} {w : World} {K : PySem.W.Frag} {mg : Str → Option Value} {base : Heap} {f : Addr} {cdv : Value} {A : Around} {outer : List Env} {s : Shared} {H : Hp} {E : XK} {k : Nat}
    (hr : Room k (A.deeper (envOfC "_law_arguments" (defScope st_Larguments) s.heap.objs.size f cdv))) (hgd : (A.deeper (envOfC "_law_arguments" (defScope st_Larguments) s.heap.objs.size f cdv)).guards = some []) :
    QSs (cxOf CX0 P w K mg base N_Larguments "_law_arguments" (defScope st_Larguments) f cdv A outer s H E).nox (defBody st_Larguments) t_Larguments :=
  (s_cons (s_set (i := 1) nd_Larguments rfl (by first | exact Or.inl rfl | exact Or.inr rfl) (q_lst qa_nil)) (s_cons (s_while PassesOwn.never (t_eq (ru hr) (q_ix (ru hr) (qv 0) qc_int) qc_str) (s_cons (s_expr (q_append (qv 1) (q_ix (ru hr) (qv 0) qc_int))) (s_one (s_set (i := 0) nd_Larguments rfl (by first | exact Or.inl rfl | exact Or.inr rfl) (q_ix (ru hr) (qv 0) qc_int))))) (s_one (s_ret (q_tup (qa_cons (qv 1) (qa_cons (qv 0) qa_nil)))))))
/-! _law_own_shapes -/
abbrev st_Lown_shapes : Stmt := top 15
abbrev N_Lown_shapes : List Str := ["_law_deck_here", "_law_tools_here", "_law_known", "_law_kind", "_law_x", "_law_some", "_law_n", "_law_found", "_law_name", "_law_one"]
abbrev P_Lown_shapes : List Str := ["_law_deck_here", "_law_tools_here", "_law_known", "_law_kind"]
theorem nd_Lown_shapes : (N_Lown_shapes).Nodup := by decide +kernel
theorem sc_Lown_shapes : FnScope N_Lown_shapes P_Lown_shapes (defScope st_Lown_shapes) := ⟨rfl, rfl, rfl, nd_Lown_shapes, rfl, by decide +kernel, by decide +kernel⟩
def t_Lown_shapes : TTS := (tsSeq (tsAsg (tcall 2 spPick (tac (tv 0) (tac (tb oIx (tv 1) (tc (.str "names"))) tan))) (tgN 4)) (tsSeq (tsIf (tq (tb oEq (tb oIx (tv 3) (tc (.int 0))) (tc (.str "fun")))) (tsRet (tlst (tac (ttup (tac (tc (.str "fun")) (tac (tv 4) (tac (tb oIx (tv 3) (tc (.int 1))) (tac (ttup (tac (tc (.str "hole")) (tac (tb oIx (tv 3) (tc (.int 2))) (tac (ttup (tac (ttup (tac (tv 4) (tac (tb oIx (tv 3) (tc (.int 1))) tan))) tan)) tan)))) tan))))) tan))) tsNx) (tsSeq (tsIf (tq (tb oEq (tb oIx (tv 3) (tc (.int 0))) (tc (.str "num")))) (tsSeq (tsAsg (tcall 2 spPick (tac (tv 0) (tac (tlst (tac (tc (.int 0)) (tac (tc (.int 1)) (tac (tc (.int 2)) (tac (tc (.int 7)) (tac (tcall 2 spDraw (tac (tv 0) (tac (tb oAdd (tb oPow (tc (.int 10)) (tc (.int 6))) (tc (.int 1))) tan))) tan)))))) tan))) (tgN 5)) (tsRet (tlst (tac (ttup (tac (tc (.str "num")) (tac (tv 5) tan))) (tac (ttup (tac (tc (.str "plus")) (tac (ttup (tac (tc (.str "hole")) (tac (tv 3) (tac (ttup tan) tan)))) (tac (ttup (tac (tc (.str "hole")) (tac (tv 3) (tac (ttup tan) tan)))) tan)))) tan))))) tsNx) (tsSeq (tsIf (tq (tb oEq (tb oIx (tv 3) (tc (.int 0))) (tc (.str "truth")))) (tsSeq (tsAsg (ttup (tac (tc (.str "hole")) (tac (ttup (tac (tc (.str "num")) tan)) (tac (ttup tan) tan)))) (tgN 6)) (tsSeq (tsAsg (tlst (tac (ttup (tac (tc (.str "truth")) (tac (tb oEq (tcall 2 spDraw (tac (tv 0) (tac (tc (.int 2)) tan))) (tc (.int 1))) tan))) (tac (ttup (tac (tc (.str "less")) (tac (tv 6) (tac (tv 6) tan)))) tan))) (tgN 7)) (tsSeq (tsFor (tiItems (tbi oDictF (tac (tv 2) tan))) (tgTup 2 (tgsCons (tgN 8) (tgsCons (tgN 9) tgsNil))) (tsIf (tand (tq (tb oEq (tb oIx (tv 9) (tc (.int 0))) (tc (.str "open")))) (tq (tb (oInG false) (tb oIx (tv 9) (tc (.int 1))) (tb oIx (tv 1) (tc (.str "looked")))))) (tsDrop (tml oAppend (tv 7) (ttup (tac (tc (.str "alike")) (tac (ttup (tac (tc (.str "hole")) (tac (tv 9) (tac (ttup tan) tan)))) (tac (ttup (tac (tc (.str "hole")) (tac (tv 9) (tac (ttup tan) tan)))) tan)))))) tsNx)) (tsRet (tv 7))))) tsNx) (tsSeq (tsIf (tq (tb oEq (tb oIx (tv 3) (tc (.int 0))) (tc (.str "pair")))) (tsRet (tlst (tac (ttup (tac (tc (.str "pair")) (tac (ttup (tac (tc (.str "hole")) (tac (tb oIx (tv 3) (tc (.int 1))) (tac (ttup tan) tan)))) (tac (ttup (tac (tc (.str "hole")) (tac (tb oIx (tv 3) (tc (.int 2))) (tac (ttup tan) tan)))) tan)))) tan))) tsNx) (tsSeq (tsIf (tq (tb oEq (tb oIx (tv 3) (tc (.int 0))) (tc (.str "either")))) (tsRet (tlst (tac (ttup (tac (tc (.str "left")) (tac (ttup (tac (tc (.str "hole")) (tac (tb oIx (tv 3) (tc (.int 1))) (tac (ttup tan) tan)))) (tac (tb oIx (tv 3) (tc (.int 2))) tan)))) (tac (ttup (tac (tc (.str "right")) (tac (tb oIx (tv 3) (tc (.int 1))) (tac (ttup (tac (tc (.str "hole")) (tac (tb oIx (tv 3) (tc (.int 2))) (tac (ttup tan) tan)))) tan)))) tan)))) tsNx) (tsSeq (tsIf (tq (tb oEq (tb oIx (tv 3) (tc (.int 0))) (tc (.str "list")))) (tsRet (tlst (tac (ttup (tac (tc (.str "none")) (tac (tb oIx (tv 3) (tc (.int 1))) tan))) (tac (ttup (tac (tc (.str "more")) (tac (ttup (tac (tc (.str "hole")) (tac (tb oIx (tv 3) (tc (.int 1))) (tac (ttup tan) tan)))) (tac (ttup (tac (tc (.str "hole")) (tac (tv 3) (tac (ttup tan) tan)))) tan)))) tan)))) tsNx) (tsRet (tlst (tac (ttup (tac (tc (.str "fault")) (tac (tv 3) tan))) tan))))))))))
theorem b_Lown_shapes {P : Program} {w : World} {K : PySem.W.Frag} {mg : Str → Option Value} {base : Heap} {f : Addr} {cdv : Value} {A : Around} {outer : List Env} {s : Shared} {H : Hp} {E : XK} {k : Nat}
    (hr : Room k (A.deeper (envOfC "_law_own_shapes" (defScope st_Lown_shapes) s.heap.objs.size f cdv))) (hgd : (A.deeper (envOfC "_law_own_shapes" (defScope st_Lown_shapes) s.heap.objs.size f cdv)).guards = some []) (c_Ldraw : Cal P w K mg base k "_law_draw" 2 spDraw) (c_Lpick : Cal P w K mg base k "_law_pick" 2 spPick) (n_dict : mg "dict" = none) :
    QSs (cxOf CX0 P w K mg base N_Lown_shapes "_law_own_shapes" (defScope st_Lown_shapes) f cdv A outer s H E).nox (defBody st_Lown_shapes) t_Lown_shapes :=
  (s_cons (s_set (i := 4) nd_Lown_shapes rfl (by first | exact Or.inl rfl | exact Or.inr rfl) (q_call c_Lpick hr hgd rfl (qa_cons (qv 0) (qa_cons (q_ix (ru hr) (qv 1) qc_str) qa_nil)))) (s_cons (s_if (t_eq (ru hr) (q_ix (ru hr) (qv 3) qc_int) qc_str) (s_one (s_ret (q_lst (qa_cons (q_tup (qa_cons qc_str (qa_cons (qv 4) (qa_cons (q_ix (ru hr) (qv 3) qc_int) (qa_cons (q_tup (qa_cons qc_str (qa_cons (q_ix (ru hr) (qv 3) qc_int) (qa_cons (q_tup (qa_cons (q_tup (qa_cons (qv 4) (qa_cons (q_ix (ru hr) (qv 3) qc_int) qa_nil))) qa_nil)) qa_nil)))) qa_nil))))) qa_nil)))) s_nil) (s_cons (s_if (t_eq (ru hr) (q_ix (ru hr) (qv 3) qc_int) qc_str) (s_cons (s_set (i := 5) nd_Lown_shapes rfl (by first | exact Or.inl rfl | exact Or.inr rfl) (q_call c_Lpick hr hgd rfl (qa_cons (qv 0) (qa_cons (q_lst (qa_cons qc_int (qa_cons qc_int (qa_cons qc_int (qa_cons qc_int (qa_cons (q_call c_Ldraw hr hgd rfl (qa_cons (qv 0) (qa_cons (q_add (q_pow qc_int qc_int) qc_int) qa_nil))) qa_nil)))))) qa_nil)))) (s_one (s_ret (q_lst (qa_cons (q_tup (qa_cons qc_str (qa_cons (qv 5) qa_nil))) (qa_cons (q_tup (qa_cons qc_str (qa_cons (q_tup (qa_cons qc_str (qa_cons (qv 3) (qa_cons (q_tup qa_nil) qa_nil)))) (qa_cons (q_tup (qa_cons qc_str (qa_cons (qv 3) (qa_cons (q_tup qa_nil) qa_nil)))) qa_nil)))) qa_nil)))))) s_nil) (s_cons (s_if (t_eq (ru hr) (q_ix (ru hr) (qv 3) qc_int) qc_str) (s_cons (s_set (i := 6) nd_Lown_shapes rfl (by first | exact Or.inl rfl | exact Or.inr rfl) (q_tup (qa_cons qc_str (qa_cons (q_tup (qa_cons qc_str qa_nil)) (qa_cons (q_tup qa_nil) qa_nil))))) (s_cons (s_set (i := 7) nd_Lown_shapes rfl (by first | exact Or.inl rfl | exact Or.inr rfl) (q_lst (qa_cons (q_tup (qa_cons qc_str (qa_cons (q_eq (ru hr) (q_call c_Ldraw hr hgd rfl (qa_cons (qv 0) (qa_cons qc_int qa_nil))) qc_int) qa_nil))) (qa_cons (q_tup (qa_cons qc_str (qa_cons (qv 6) (qa_cons (qv 6) qa_nil)))) qa_nil)))) (s_cons (s_for PassesOwn.never rfl (i_items (q_dictF rfl rfl n_dict (qa_cons (qv 2) qa_nil))) (g_tup (n := 2) rfl (gs_cons (g_name (i := 8) nd_Lown_shapes rfl (by first | exact Or.inl rfl | exact Or.inr rfl)) (gs_cons (g_name (i := 9) nd_Lown_shapes rfl (by first | exact Or.inl rfl | exact Or.inr rfl)) gs_nil))) (s_one (s_if (t_w (w_and (t_eq (ru hr) (q_ix (ru hr) (qv 9) qc_int) qc_str) (w_and1 (t_in (ru hr) (q_ix (ru hr) (qv 9) qc_int) (q_ix (ru hr) (qv 1) qc_str))))) (s_one (s_expr (q_append (qv 7) (q_tup (qa_cons qc_str (qa_cons (q_tup (qa_cons qc_str (qa_cons (qv 9) (qa_cons (q_tup qa_nil) qa_nil)))) (qa_cons (q_tup (qa_cons qc_str (qa_cons (qv 9) (qa_cons (q_tup qa_nil) qa_nil)))) qa_nil))))))) s_nil))) (s_one (s_ret (qv 7)))))) s_nil) (s_cons (s_if (t_eq (ru hr) (q_ix (ru hr) (qv 3) qc_int) qc_str) (s_one (s_ret (q_lst (qa_cons (q_tup (qa_cons qc_str (qa_cons (q_tup (qa_cons qc_str (qa_cons (q_ix (ru hr) (qv 3) qc_int) (qa_cons (q_tup qa_nil) qa_nil)))) (qa_cons (q_tup (qa_cons qc_str (qa_cons (q_ix (ru hr) (qv 3) qc_int) (qa_cons (q_tup qa_nil) qa_nil)))) qa_nil)))) qa_nil)))) s_nil) (s_cons (s_if (t_eq (ru hr) (q_ix (ru hr) (qv 3) qc_int) qc_str) (s_one (s_ret (q_lst (qa_cons (q_tup (qa_cons qc_str (qa_cons (q_tup (qa_cons qc_str (qa_cons (q_ix (ru hr) (qv 3) qc_int) (qa_cons (q_tup qa_nil) qa_nil)))) (qa_cons (q_ix (ru hr) (qv 3) qc_int) qa_nil)))) (qa_cons (q_tup (qa_cons qc_str (qa_cons (q_ix (ru hr) (qv 3) qc_int) (qa_cons (q_tup (qa_cons qc_str (qa_cons (q_ix (ru hr) (qv 3) qc_int) (qa_cons (q_tup qa_nil) qa_nil)))) qa_nil)))) qa_nil))))) s_nil) (s_cons (s_if (t_eq (ru hr) (q_ix (ru hr) (qv 3) qc_int) qc_str) (s_one (s_ret (q_lst (qa_cons (q_tup (qa_cons qc_str (qa_cons (q_ix (ru hr) (qv 3) qc_int) qa_nil))) (qa_cons (q_tup (qa_cons qc_str (qa_cons (q_tup (qa_cons qc_str (qa_cons (q_ix (ru hr) (qv 3) qc_int) (qa_cons (q_tup qa_nil) qa_nil)))) (qa_cons (q_tup (qa_cons qc_str (qa_cons (qv 3) (qa_cons (q_tup qa_nil) qa_nil)))) qa_nil)))) qa_nil))))) s_nil) (s_one (s_ret (q_lst (qa_cons (q_tup (qa_cons qc_str (qa_cons (qv 3) qa_nil))) qa_nil)))))))))))
/-! _law_other_shapes -/
abbrev st_Lother_shapes : Stmt := top 16
abbrev N_Lother_shapes : List Str := ["_law_deck_here", "_law_tools_here", "_law_known", "_law_kind", "_law_some", "_law_rows", "_law_both", "_law_one", "_law_pairs", "_law_pair", "_law_found", "_law_last", "_law_side", "_law_turn", "_law_often", "_law_x", "_law_y", "_law_c", "_law_n", "_law_o", "_law_word"]
abbrev P_Lother_shapes : List Str := ["_law_deck_here", "_law_tools_here", "_law_known", "_law_kind"]
theorem nd_Lother_shapes : (N_Lother_shapes).Nodup := by decide +kernel
theorem sc_Lother_shapes : FnScope N_Lother_shapes P_Lother_shapes (defScope st_Lother_shapes) := ⟨rfl, rfl, rfl, nd_Lother_shapes, rfl, by decide +kernel, by decide +kernel⟩
def t_Lother_shapes : TTS := (tsSeq (tsPar 15 16 (tac (tb oIx (tb oIx (tv 1) (tc (.str "names"))) (tc (.int 0))) (tac (tb oIx (tb oIx (tv 1) (tc (.str "names"))) (tc (.int 1))) tan))) (tsSeq (tsIf (tq (tb oEq (tcall 2 spDraw (tac (tv 0) (tac (tc (.int 2)) tan))) (tc (.int 1)))) (tsPar 15 16 (tac (tv 16) (tac (tcall 2 spPick (tac (tv 0) (tac (tb oAdd (tlst (tac (tv 15) tan)) (tsl (tb oIx (tv 1) (tc (.str "names"))) (tpt (tc (.int 2))) tno)) tan))) tan))) tsNx) (tsSeq (tsAsg (tlVals (tbi oDictF (tac (tv 2) tan))) (tgN 4)) (tsSeq (tsAsg (tb oAdd (tlc (tiSeq (tv 4)) (bt1 7) (tq (tb oEq (tb oIx (tv 7) (tc (.int 0))) (tc (.str "list")))) (tv 7) [7]) (tlst (tac (ttup (tac (tc (.str "list")) (tac (ttup (tac (tc (.str "num")) tan)) tan))) tan))) (tgN 5)) (tsSeq (tsAsg (tcall 2 spPick (tac (tv 0) (tac (tv 5) tan))) (tgN 5)) (tsSeq (tsAsg (tb oAdd (tlc (tiSeq (tv 4)) (bt1 7) (tq (tb oEq (tb oIx (tv 7) (tc (.int 0))) (tc (.str "either")))) (tv 7) [7]) (tlst (tac (ttup (tac (tc (.str "either")) (tac (ttup (tac (tc (.str "truth")) tan)) (tac (tv 3) tan)))) tan))) (tgN 6)) (tsSeq (tsAsg (tcall 2 spPick (tac (tv 0) (tac (tv 6) tan))) (tgN 6)) (tsSeq (tsAsg (tcall 2 spPick (tac (tv 0) (tac (tb oAdd (tlc (tiSeq (tv 4)) (bt1 7) (tq (tb oNe (tb oIx (tv 7) (tc (.int 0))) (tc (.str "fun")))) (tv 7) [7]) (tlst (tac (ttup (tac (tc (.str "num")) tan)) tan))) tan))) (tgN 7)) (tsSeq (tsAsg (tlc (tiSeq (tv 4)) (bt1 7) (tand (tq (tb oEq (tb oIx (tv 7) (tc (.int 0))) (tc (.str "pair")))) (tq (tb (oInG false) (tv 3) (tsl (tv 7) (tpt (tc (.int 1))) tno)))) (tv 7) [7]) (tgN 8)) (tsSeq (tsAsg (tcall 2 spPick (tac (tv 0) (tac (tb oAdd (tv 8) (tlst (tac (ttup (tac (tc (.str "pair")) (tac (tv 3) (tac (tv 7) tan)))) (tac (ttup (tac (tc (.str "pair")) (tac (tv 7) (tac (tv 3) tan)))) tan)))) tan))) (tgN 9)) (tsSeq (tsAsg (tdisp [((tc (.str "if")), (ttup (tac (tc (.str "if")) (tac (ttup (tac (tc (.str "hole")) (tac (ttup (tac (tc (.str "truth")) tan)) (tac (ttup tan) tan)))) (tac (ttup (tac (tc (.str "hole")) (tac (tv 3) (tac (ttup tan) tan)))) (tac (ttup (tac (tc (.str "hole")) (tac (tv 3) (tac (ttup tan) tan)))) tan))))))]) (tgN 10)) (tsSeq (tsAsg (ttup (tac (tb oIx (tlst (tac (tc (.str "second")) (tac (tc (.str "first")) tan))) (tbi oInt (tac (tb oEq (tb oIx (tv 9) (tc (.int 1))) (tv 3)) tan))) (tac (ttup (tac (tc (.str "hole")) (tac (tv 9) (tac (ttup tan) tan)))) tan))) (tgSub (tv 10) (tc (.str "part")))) (tsSeq (tsAsg (ttup (tac (tc (.str "hole")) (tac (tv 3) (tac (ttup (tac (ttup (tac (tv 16) (tac (tb oIx (tv 6) (tc (.int 2))) tan))) tan)) tan)))) (tgN 11)) (tsSeq (tsAsg (ttup (tac (tc (.str "hole")) (tac (tv 3) (tac (ttup (tac (ttup (tac (tv 15) (tac (tb oIx (tv 6) (tc (.int 1))) tan))) tan)) tan)))) (tgN 12)) (tsSeq (tsAsg (ttup (tac (tc (.str "case")) (tac (ttup (tac (tc (.str "hole")) (tac (tv 6) (tac (ttup tan) tan)))) (tac (tv 15) (tac (tv 12) (tac (tv 16) (tac (tv 11) tan))))))) (tgSub (tv 10) (tc (.str "case")))) (tsSeq (tsAsg (ttup (tac (tc (.str "hole")) (tac (tv 3) (tac (ttup (tac (ttup (tac (tv 15) (tac (tb oIx (tv 5) (tc (.int 1))) tan))) (tac (ttup (tac (tv 16) (tac (tv 3) tan))) tan))) tan)))) (tgN 11)) (tsSeq (tsAsg (ttup (tac (tc (.str "fold")) (tac (ttup (tac (tc (.str "hole")) (tac (tv 5) (tac (ttup tan) tan)))) (tac (ttup (tac (tc (.str "hole")) (tac (tv 3) (tac (ttup tan) tan)))) (tac (tv 15) (tac (tv 16) (tac (tv 11) tan))))))) (tgSub (tv 10) (tc (.str "fold")))) (tsSeq (tsAsg (ttup (tac (tc (.str "hole")) (tac (ttup (tac (tc (.str "either")) (tac (tv 7) (tac (tv 3) tan)))) (tac (ttup (tac (ttup (tac (tv 15) (tac (tv 7) tan))) tan)) tan)))) (tgN 13)) (tsSeq (tsAsg (tb oAdd (tc (.int 1)) (tcall 2 spDraw (tac (tv 0) (tac (tb oIx (tlst (tac (tc (.int 3)) (tac (tc (.int 30)) tan))) (tcall 2 spDraw (tac (tv 0) (tac (tc (.int 2)) tan)))) tan)))) (tgN 14)) (tsSeq (tsAsg (ttup (tac (tc (.str "rounds")) (tac (tv 14) (tac (ttup (tac (tc (.str "hole")) (tac (tv 7) (tac (ttup tan) tan)))) (tac (tv 15) (tac (tv 13) tan)))))) (tgSub (tv 10) (tc (.str "rounds")))) (tsSeq (tsAsg (ttup (tac (tc (.str "fun")) (tac (tv 15) (tac (tv 7) (tac (ttup (tac (tc (.str "hole")) (tac (tv 3) (tac (ttup (tac (ttup (tac (tv 15) (tac (tv 7) tan))) tan)) tan)))) tan))))) (tgN 12)) (tsSeq (tsAsg (ttup (tac (tc (.str "call")) (tac (tv 12) (tac (ttup (tac (tc (.str "hole")) (tac (tv 7) (tac (ttup tan) tan)))) tan)))) (tgSub (tv 10) (tc (.str "call")))) (tsSeq (tsPar3 17 18 19 (tac (tb oAdd (tb oIx (tv 1) (tc (.str "own"))) (tc (.str "c"))) (tac (tb oAdd (tb oIx (tv 1) (tc (.str "own"))) (tc (.str "n"))) (tac (ttup (tac (tc (.str "open")) (tac (tb oIx (tv 1) (tc (.str "own"))) tan))) tan)))) (tsSeq (tsAsg (tb oIx (tv 10) (tc (.str "if"))) (tgSub (tv 10) (tc (.str "built")))) (tsSeq (tsIf (tand (tq (tb oEq (tb oIx (tv 3) (tc (.int 0))) (tc (.str "list")))) (tand (tq (tb (oInG true) (tv 17) (tbi oDictF (tac (tv 2) tan)))) (tand (tq (tb (oInG true) (tv 18) (tbi oDictF (tac (tv 2) tan)))) (tq (tb oLt (tbi oLen (tac (tv 17) tan)) (tc (.int 9))))))) (tsSeq (tsAsg (ttup (tac (tc (.str "hole")) (tac (tv 19) (tac (ttup (tac (ttup (tac (tv 17) (tac (ttup (tac (tc (.str "fun")) (tac (tb oIx (tv 3) (tc (.int 1))) (tac (ttup (tac (tc (.str "fun")) (tac (tv 19) (tac (tv 19) tan)))) tan)))) tan))) (tac (ttup (tac (tv 18) (tac (tv 19) tan))) tan))) tan)))) (tgN 11)) (tsAsg (ttup (tac (tc (.str "built")) (tac (tb oIx (tv 3) (tc (.int 1))) (tac (tb oIx (tv 1) (tc (.str "own"))) (tac (tv 17) (tac (tv 18) (tac (tv 11) tan))))))) (tgSub (tv 10) (tc (.str "built"))))) tsNx) (tsRet (tlc (tiSeq (tb oIx (tv 1) (tc (.str "words")))) (bt1 20) ttYes (tb oIx (tv 10) (tv 20)) [20])))))))))))))))))))))))))))
theorem b_Lother_shapes {P : Program} {w : World} {K : PySem.W.Frag} {mg : Str → Option Value} {base : Heap} {f : Addr} {cdv : Value} {A : Around} {outer : List Env} {s : Shared} {H : Hp} {E : XK} {k : Nat}
    (hr : Room k (A.deeper (envOfC "_law_other_shapes" (defScope st_Lother_shapes) s.heap.objs.size f cdv))) (hgd : (A.deeper (envOfC "_law_other_shapes" (defScope st_Lother_shapes) s.heap.objs.size f cdv)).guards = some []) (c_Ldraw : Cal P w K mg base k "_law_draw" 2 spDraw) (c_Lpick : Cal P w K mg base k "_law_pick" 2 spPick) (n_dict : mg "dict" = none) (n_int : mg "int" = none) (n_len : mg "len" = none) (n_list : mg "list" = none) :
    QSs (cxOf CX0 P w K mg base N_Lother_shapes "_law_other_shapes" (defScope st_Lother_shapes) f cdv A outer s H E).nox (defBody st_Lother_shapes) t_Lother_shapes :=
  (s_cons (s_par (i := 15) (j := 16) rfl nd_Lother_shapes rfl rfl (by decide) rfl rfl (qa_cons (q_ix (ru hr) (q_ix (ru hr) (qv 1) qc_str) qc_int) (qa_cons (q_ix (ru hr) (q_ix (ru hr) (qv 1) qc_str) qc_int) qa_nil)) rfl) (s_cons (s_if (t_eq (ru hr) (q_call c_Ldraw hr hgd rfl (qa_cons (qv 0) (qa_cons qc_int qa_nil))) qc_int) (s_one (s_par (i := 15) (j := 16) rfl nd_Lother_shapes rfl rfl (by decide) rfl rfl (qa_cons (qv 16) (qa_cons (q_call c_Lpick hr hgd rfl (qa_cons (qv 0) (qa_cons (q_add (q_lst (qa_cons (qv 15) qa_nil)) (q_sl (q_ix (ru hr) (qv 1) qc_str) (qo_some qc_int) qo_none)) qa_nil))) qa_nil)) rfl)) s_nil) (s_cons (s_set (i := 4) nd_Lother_shapes rfl (by first | exact Or.inl rfl | exact Or.inr rfl) (q_lstVals rfl rfl n_list (q_dictF rfl rfl n_dict (qa_cons (qv 2) qa_nil)))) (s_cons (s_set (i := 5) nd_Lother_shapes rfl (by first | exact Or.inl rfl | exact Or.inr rfl) (q_add (q_lc (own := [("_law_one", 7)]) rfl nd_Lother_shapes (i_seq (qv 4)) (blkOk_by (own := [("_law_one", 7)]) (N := N_Lother_shapes) (sc := defScope st_Lother_shapes) (by decide +kernel)) (tbind1 (i := 7)) (fun _ _ _ _ _ => pg_name (i := 7) nd_Lother_shapes rfl (by first | exact Or.inl rfl | exact Or.inr rfl)) (fun _ _ _ _ _ => ts_one (t_eq (ru hr) (q_ix (ru hr) (qv 7) qc_int) qc_str)) (fun _ _ _ _ _ => (qv 7))) (q_lst (qa_cons (q_tup (qa_cons qc_str (qa_cons (q_tup (qa_cons qc_str qa_nil)) qa_nil))) qa_nil)))) (s_cons (s_set (i := 5) nd_Lother_shapes rfl (by first | exact Or.inl rfl | exact Or.inr rfl) (q_call c_Lpick hr hgd rfl (qa_cons (qv 0) (qa_cons (qv 5) qa_nil)))) (s_cons (s_set (i := 6) nd_Lother_shapes rfl (by first | exact Or.inl rfl | exact Or.inr rfl) (q_add (q_lc (own := [("_law_one", 7)]) rfl nd_Lother_shapes (i_seq (qv 4)) (blkOk_by (own := [("_law_one", 7)]) (N := N_Lother_shapes) (sc := defScope st_Lother_shapes) (by decide +kernel)) (tbind1 (i := 7)) (fun _ _ _ _ _ => pg_name (i := 7) nd_Lother_shapes rfl (by first | exact Or.inl rfl | exact Or.inr rfl)) (fun _ _ _ _ _ => ts_one (t_eq (ru hr) (q_ix (ru hr) (qv 7) qc_int) qc_str)) (fun _ _ _ _ _ => (qv 7))) (q_lst (qa_cons (q_tup (qa_cons qc_str (qa_cons (q_tup (qa_cons qc_str qa_nil)) (qa_cons (qv 3) qa_nil)))) qa_nil)))) (s_cons (s_set (i := 6) nd_Lother_shapes rfl (by first | exact Or.inl rfl | exact Or.inr rfl) (q_call c_Lpick hr hgd rfl (qa_cons (qv 0) (qa_cons (qv 6) qa_nil)))) (s_cons (s_set (i := 7) nd_Lother_shapes rfl (by first | exact Or.inl rfl | exact Or.inr rfl) (q_call c_Lpick hr hgd rfl (qa_cons (qv 0) (qa_cons (q_add (q_lc (own := [("_law_one", 7)]) rfl nd_Lother_shapes (i_seq (qv 4)) (blkOk_by (own := [("_law_one", 7)]) (N := N_Lother_shapes) (sc := defScope st_Lother_shapes) (by decide +kernel)) (tbind1 (i := 7)) (fun _ _ _ _ _ => pg_name (i := 7) nd_Lother_shapes rfl (by first | exact Or.inl rfl | exact Or.inr rfl)) (fun _ _ _ _ _ => ts_one (t_ne (ru hr) (q_ix (ru hr) (qv 7) qc_int) qc_str)) (fun _ _ _ _ _ => (qv 7))) (q_lst (qa_cons (q_tup (qa_cons qc_str qa_nil)) qa_nil))) qa_nil)))) (s_cons (s_setLc (own := [("_law_one", 7)]) (i := 8) rfl nd_Lother_shapes rfl rfl (sw_true rfl rfl rfl (by decide +kernel)) (i_seq (qv 4)) (blkOk_by (own := [("_law_one", 7)]) (N := N_Lother_shapes) (sc := defScope st_Lother_shapes) (by decide +kernel)) (tbind1 (i := 7)) (fun _ _ _ _ _ => pg_name (i := 7) nd_Lother_shapes rfl (by first | exact Or.inl rfl | exact Or.inr rfl)) (fun _ _ _ _ _ => ts_one (t_w (w_and (t_eq (ru hr) (q_ix (ru hr) (qv 7) qc_int) qc_str) (w_and1 (t_in (ru hr) (qv 3) (q_sl (qv 7) (qo_some qc_int) qo_none)))))) (fun _ _ _ _ _ => (qv 7))) (s_cons (s_set (i := 9) nd_Lother_shapes rfl (by first | exact Or.inl rfl | exact Or.inr rfl) (q_call c_Lpick hr hgd rfl (qa_cons (qv 0) (qa_cons (q_add (qv 8) (q_lst (qa_cons (q_tup (qa_cons qc_str (qa_cons (qv 3) (qa_cons (qv 7) qa_nil)))) (qa_cons (q_tup (qa_cons qc_str (qa_cons (qv 7) (qa_cons (qv 3) qa_nil)))) qa_nil)))) qa_nil)))) (s_cons (s_set (i := 10) nd_Lother_shapes rfl (by first | exact Or.inl rfl | exact Or.inr rfl) (q_disp (qps_cons qc_str (q_tup (qa_cons qc_str (qa_cons (q_tup (qa_cons qc_str (qa_cons (q_tup (qa_cons qc_str qa_nil)) (qa_cons (q_tup qa_nil) qa_nil)))) (qa_cons (q_tup (qa_cons qc_str (qa_cons (qv 3) (qa_cons (q_tup qa_nil) qa_nil)))) (qa_cons (q_tup (qa_cons qc_str (qa_cons (qv 3) (qa_cons (q_tup qa_nil) qa_nil)))) qa_nil))))) qps_nil))) (s_cons (s_asg (q_tup (qa_cons (q_ix (ru hr) (q_lst (qa_cons qc_str (qa_cons qc_str qa_nil))) (q_int rfl n_int (qa_cons (q_eq (ru hr) (q_ix (ru hr) (qv 9) qc_int) (qv 3)) qa_nil))) (qa_cons (q_tup (qa_cons qc_str (qa_cons (qv 9) (qa_cons (q_tup qa_nil) qa_nil)))) qa_nil))) (g_sub (ru hr) (qv 10) qc_str)) (s_cons (s_set (i := 11) nd_Lother_shapes rfl (by first | exact Or.inl rfl | exact Or.inr rfl) (q_tup (qa_cons qc_str (qa_cons (qv 3) (qa_cons (q_tup (qa_cons (q_tup (qa_cons (qv 16) (qa_cons (q_ix (ru hr) (qv 6) qc_int) qa_nil))) qa_nil)) qa_nil))))) (s_cons (s_set (i := 12) nd_Lother_shapes rfl (by first | exact Or.inl rfl | exact Or.inr rfl) (q_tup (qa_cons qc_str (qa_cons (qv 3) (qa_cons (q_tup (qa_cons (q_tup (qa_cons (qv 15) (qa_cons (q_ix (ru hr) (qv 6) qc_int) qa_nil))) qa_nil)) qa_nil))))) (s_cons (s_asg (q_tup (qa_cons qc_str (qa_cons (q_tup (qa_cons qc_str (qa_cons (qv 6) (qa_cons (q_tup qa_nil) qa_nil)))) (qa_cons (qv 15) (qa_cons (qv 12) (qa_cons (qv 16) (qa_cons (qv 11) qa_nil))))))) (g_sub (ru hr) (qv 10) qc_str)) (s_cons (s_set (i := 11) nd_Lother_shapes rfl (by first | exact Or.inl rfl | exact Or.inr rfl) (q_tup (qa_cons qc_str (qa_cons (qv 3) (qa_cons (q_tup (qa_cons (q_tup (qa_cons (qv 15) (qa_cons (q_ix (ru hr) (qv 5) qc_int) qa_nil))) (qa_cons (q_tup (qa_cons (qv 16) (qa_cons (qv 3) qa_nil))) qa_nil))) qa_nil))))) (s_cons (s_asg (q_tup (qa_cons qc_str (qa_cons (q_tup (qa_cons qc_str (qa_cons (qv 5) (qa_cons (q_tup qa_nil) qa_nil)))) (qa_cons (q_tup (qa_cons qc_str (qa_cons (qv 3) (qa_cons (q_tup qa_nil) qa_nil)))) (qa_cons (qv 15) (qa_cons (qv 16) (qa_cons (qv 11) qa_nil))))))) (g_sub (ru hr) (qv 10) qc_str)) (s_cons (s_set (i := 13) nd_Lother_shapes rfl (by first | exact Or.inl rfl | exact Or.inr rfl) (q_tup (qa_cons qc_str (qa_cons (q_tup (qa_cons qc_str (qa_cons (qv 7) (qa_cons (qv 3) qa_nil)))) (qa_cons (q_tup (qa_cons (q_tup (qa_cons (qv 15) (qa_cons (qv 7) qa_nil))) qa_nil)) qa_nil))))) (s_cons (s_set (i := 14) nd_Lother_shapes rfl (by first | exact Or.inl rfl | exact Or.inr rfl) (q_add qc_int (q_call c_Ldraw hr hgd rfl (qa_cons (qv 0) (qa_cons (q_ix (ru hr) (q_lst (qa_cons qc_int (qa_cons qc_int qa_nil))) (q_call c_Ldraw hr hgd rfl (qa_cons (qv 0) (qa_cons qc_int qa_nil)))) qa_nil))))) (s_cons (s_asg (q_tup (qa_cons qc_str (qa_cons (qv 14) (qa_cons (q_tup (qa_cons qc_str (qa_cons (qv 7) (qa_cons (q_tup qa_nil) qa_nil)))) (qa_cons (qv 15) (qa_cons (qv 13) qa_nil)))))) (g_sub (ru hr) (qv 10) qc_str)) (s_cons (s_set (i := 12) nd_Lother_shapes rfl (by first | exact Or.inl rfl | exact Or.inr rfl) (q_tup (qa_cons qc_str (qa_cons (qv 15) (qa_cons (qv 7) (qa_cons (q_tup (qa_cons qc_str (qa_cons (qv 3) (qa_cons (q_tup (qa_cons (q_tup (qa_cons (qv 15) (qa_cons (qv 7) qa_nil))) qa_nil)) qa_nil)))) qa_nil)))))) (s_cons (s_asg (q_tup (qa_cons qc_str (qa_cons (qv 12) (qa_cons (q_tup (qa_cons qc_str (qa_cons (qv 7) (qa_cons (q_tup qa_nil) qa_nil)))) qa_nil)))) (g_sub (ru hr) (qv 10) qc_str)) (s_cons (s_par3 (i := 17) (j := 18) (l := 19) rfl nd_Lother_shapes rfl rfl rfl (by decide) (by decide) (by decide) rfl rfl rfl (qa_cons (q_add (q_ix (ru hr) (qv 1) qc_str) qc_str) (qa_cons (q_add (q_ix (ru hr) (qv 1) qc_str) qc_str) (qa_cons (q_tup (qa_cons qc_str (qa_cons (q_ix (ru hr) (qv 1) qc_str) qa_nil))) qa_nil))) rfl) (s_cons (s_asg (q_ix (ru hr) (qv 10) qc_str) (g_sub (ru hr) (qv 10) qc_str)) (s_cons (s_if (t_w (w_and (t_eq (ru hr) (q_ix (ru hr) (qv 3) qc_int) qc_str) (w_and (t_notin (ru hr) (qv 17) (q_dictF rfl rfl n_dict (qa_cons (qv 2) qa_nil))) (w_and (t_notin (ru hr) (qv 18) (q_dictF rfl rfl n_dict (qa_cons (qv 2) qa_nil))) (w_and1 (t_lt (q_len rfl n_len (qa_cons (qv 17) qa_nil)) qc_int)))))) (s_cons (s_set (i := 11) nd_Lother_shapes rfl (by first | exact Or.inl rfl | exact Or.inr rfl) (q_tup (qa_cons qc_str (qa_cons (qv 19) (qa_cons (q_tup (qa_cons (q_tup (qa_cons (qv 17) (qa_cons (q_tup (qa_cons qc_str (qa_cons (q_ix (ru hr) (qv 3) qc_int) (qa_cons (q_tup (qa_cons qc_str (qa_cons (qv 19) (qa_cons (qv 19) qa_nil)))) qa_nil)))) qa_nil))) (qa_cons (q_tup (qa_cons (qv 18) (qa_cons (qv 19) qa_nil))) qa_nil))) qa_nil))))) (s_one (s_asg (q_tup (qa_cons qc_str (qa_cons (q_ix (ru hr) (qv 3) qc_int) (qa_cons (q_ix (ru hr) (qv 1) qc_str) (qa_cons (qv 17) (qa_cons (qv 18) (qa_cons (qv 11) qa_nil))))))) (g_sub (ru hr) (qv 10) qc_str)))) s_nil) (s_one (s_ret (q_lc (own := [("_law_word", 20)]) rfl nd_Lother_shapes (i_seq (q_ix (ru hr) (qv 1) qc_str)) (blkOk_by (own := [("_law_word", 20)]) (N := N_Lother_shapes) (sc := defScope st_Lother_shapes) (by decide +kernel)) (tbind1 (i := 20)) (fun _ _ _ _ _ => pg_name (i := 20) nd_Lother_shapes rfl (by first | exact Or.inl rfl | exact Or.inr rfl)) (fun _ _ _ _ _ => ts_nil) (fun _ _ _ _ _ => (q_ix (ru hr) (qv 10) (qv 20)))))))))))))))))))))))))))))))
/-! _law_call_shapes -/
abbrev st_Lcall_shapes : Stmt := top 17
abbrev N_Lcall_shapes : List Str := ["_law_known", "_law_kind", "_law_found", "_law_name", "_law_one", "_law_some", "_law_result", "_law_term_here", "_law_each"]
abbrev P_Lcall_shapes : List Str := ["_law_known", "_law_kind"]
theorem nd_Lcall_shapes : (N_Lcall_shapes).Nodup := by decide +kernel
theorem sc_Lcall_shapes : FnScope N_Lcall_shapes P_Lcall_shapes (defScope st_Lcall_shapes) := ⟨rfl, rfl, rfl, nd_Lcall_shapes, rfl, by decide +kernel, by decide +kernel⟩
def t_Lcall_shapes : TTS := (tsSeq (tsAsg (tlst tan) (tgN 2)) (tsSeq (tsFor (tiItems (tbi oDictF (tac (tv 0) tan))) (tgTup 2 (tgsCons (tgN 3) (tgsCons (tgN 4) tgsNil))) (tsSeq (tsAsg (tcall 1 spArgs (tac (tv 4) tan)) (tgTup 2 (tgsCons (tgN 5) (tgsCons (tgN 6) tgsNil)))) (tsIf (tand (tq (tb oNe (tv 5) (tlst tan))) (tq (tb oEq (tv 6) (tv 1)))) (tsSeq (tsAsg (ttup (tac (tc (.str "name")) (tac (tv 3) tan))) (tgN 7)) (tsSeq (tsFor (tiSeq (tv 5)) (tgN 8) (tsAsg (ttup (tac (tc (.str "call")) (tac (tv 7) (tac (ttup (tac (tc (.str "hole")) (tac (tv 8) (tac (ttup tan) tan)))) tan)))) (tgN 7))) (tsDrop (tml oAppend (tv 2) (tv 7))))) tsNx))) (tsRet (tv 2))))
theorem b_Lcall_shapes {P : Program} {w : World} {K : PySem.W.Frag} {mg : Str → Option Value} {base : Heap} {f : Addr} {cdv : Value} {A : Around} {outer : List Env} {s : Shared} {H : Hp} {E : XK} {k : Nat}
    (hr : Room k (A.deeper (envOfC "_law_call_shapes" (defScope st_Lcall_shapes) s.heap.objs.size f cdv))) (hgd : (A.deeper (envOfC "_law_call_shapes" (defScope st_Lcall_shapes) s.heap.objs.size f cdv)).guards = some []) (c_Larguments : Cal P w K mg base k "_law_arguments" 1 spArgs) (n_dict : mg "dict" = none) :
    QSs (cxOf CX0 P w K mg base N_Lcall_shapes "_law_call_shapes" (defScope st_Lcall_shapes) f cdv A outer s H E).nox (defBody st_Lcall_shapes) t_Lcall_shapes :=
  (s_cons (s_set (i := 2) nd_Lcall_shapes rfl (by first | exact Or.inl rfl | exact Or.inr rfl) (q_lst qa_nil)) (s_cons (s_for PassesOwn.never rfl (i_items (q_dictF rfl rfl n_dict (qa_cons (qv 0) qa_nil))) (g_tup (n := 2) rfl (gs_cons (g_name (i := 3) nd_Lcall_shapes rfl (by first | exact Or.inl rfl | exact Or.inr rfl)) (gs_cons (g_name (i := 4) nd_Lcall_shapes rfl (by first | exact Or.inl rfl | exact Or.inr rfl)) gs_nil))) (s_cons (s_asg (q_call c_Larguments hr hgd rfl (qa_cons (qv 4) qa_nil)) (g_tup (n := 2) rfl (gs_cons (g_name (i := 5) nd_Lcall_shapes rfl (by first | exact Or.inl rfl | exact Or.inr rfl)) (gs_cons (g_name (i := 6) nd_Lcall_shapes rfl (by first | exact Or.inl rfl | exact Or.inr rfl)) gs_nil)))) (s_one (s_if (t_w (w_and (t_ne (ru hr) (qv 5) (q_lst qa_nil)) (w_and1 (t_eq (ru hr) (qv 6) (qv 1))))) (s_cons (s_set (i := 7) nd_Lcall_shapes rfl (by first | exact Or.inl rfl | exact Or.inr rfl) (q_tup (qa_cons qc_str (qa_cons (qv 3) qa_nil)))) (s_cons (s_for PassesOwn.never rfl (i_seq (qv 5)) (g_name (i := 8) nd_Lcall_shapes rfl (by first | exact Or.inl rfl | exact Or.inr rfl)) (s_one (s_set (i := 7) nd_Lcall_shapes rfl (by first | exact Or.inl rfl | exact Or.inr rfl) (q_tup (qa_cons qc_str (qa_cons (qv 7) (qa_cons (q_tup (qa_cons qc_str (qa_cons (qv 8) (qa_cons (q_tup qa_nil) qa_nil)))) qa_nil))))))) (s_one (s_expr (q_append (qv 2) (qv 7)))))) s_nil)))) (s_one (s_ret (qv 2)))))
/-! _law_filled -/
abbrev st_Lfilled : Stmt := top 18
abbrev N_Lfilled : List Str := ["_law_deck_here", "_law_tools_here", "_law_known", "_law_shape", "_law_deep", "_law_part"]
abbrev P_Lfilled : List Str := ["_law_deck_here", "_law_tools_here", "_law_known", "_law_shape", "_law_deep"]
theorem nd_Lfilled : (N_Lfilled).Nodup := by decide +kernel
theorem sc_Lfilled : FnScope N_Lfilled P_Lfilled (defScope st_Lfilled) := ⟨rfl, rfl, rfl, nd_Lfilled, rfl, by decide +kernel, by decide +kernel⟩
def t_Lfilled (n : Nat) : TTS := (tsSeq (tsIf (tnot (tq (tisi "tuple" (tv 3)))) (tsRet (tv 3)) tsNx) (tsSeq (tsIf (tq (tb oEq (tsl (tv 3) tno (tpt (tc (.int 1)))) (ttup (tac (tc (.str "hole")) tan)))) (tsRet (tcall 5 (spMake n) (tac (tv 0) (tac (tv 1) (tac (tb oAdd (tv 2) (tbi oLst (tac (tb oIx (tv 3) (tc (.int 2))) tan))) (tac (tb oIx (tv 3) (tc (.int 1))) (tac (tv 4) tan))))))) tsNx) (tsRet (tbi oTup (tac (tlc (tiSeq (tv 3)) (bt1 5) ttYes (tcall 5 (spFilled n) (tac (tv 0) (tac (tv 1) (tac (tv 2) (tac (tv 5) (tac (tv 4) tan)))))) [5]) tan)))))
theorem b_Lfilled {P : Program} {w : World} {K : PySem.W.Frag} {mg : Str → Option Value} {base : Heap} {f : Addr} {cdv : Value} {A : Around} {outer : List Env} {s : Shared} {H : Hp} {E : XK} {k : Nat} {n : Nat}
    (hr : Room k (A.deeper (envOfC "_law_filled" (defScope st_Lfilled) s.heap.objs.size f cdv))) (hgd : (A.deeper (envOfC "_law_filled" (defScope st_Lfilled) s.heap.objs.size f cdv)).guards = some []) (c_Lfilled : Cal P w K mg base k "_law_filled" 5 (spFilled n)) (c_Lmake : Cal P w K mg base k "_law_make" 5 (spMake n)) (n_isinstance : mg "isinstance" = none) (n_list : mg "list" = none) (n_tuple : mg "tuple" = none) :
    QSs (cxOf CX0 P w K mg base N_Lfilled "_law_filled" (defScope st_Lfilled) f cdv A outer s H E).nox (defBody st_Lfilled) (t_Lfilled n) :=
  (s_cons (s_if (t_not (t_val (q_isi rfl n_isinstance rfl n_tuple (by decide +kernel) tyOk_tuple (qv 3)))) (s_one (s_ret (qv 3))) s_nil) (s_cons (s_if (t_eq (ru hr) (q_sl (qv 3) qo_none (qo_some qc_int)) (q_tup (qa_cons qc_str qa_nil))) (s_one (s_ret (q_call c_Lmake hr hgd rfl (qa_cons (qv 0) (qa_cons (qv 1) (qa_cons (q_add (qv 2) (q_list rfl n_list (qa_cons (q_ix (ru hr) (qv 3) qc_int) qa_nil))) (qa_cons (q_ix (ru hr) (qv 3) qc_int) (qa_cons (qv 4) qa_nil)))))))) s_nil) (s_one (s_ret (q_tuple rfl n_tuple (qa_cons (q_lc (own := [("_law_part", 5)]) rfl nd_Lfilled (i_seq (qv 3)) (blkOk_by (own := [("_law_part", 5)]) (N := N_Lfilled) (sc := defScope st_Lfilled) (by decide +kernel)) (tbind1 (i := 5)) (fun _ _ _ _ _ => pg_name (i := 5) nd_Lfilled rfl (by first | exact Or.inl rfl | exact Or.inr rfl)) (fun _ _ _ _ _ => ts_nil) (fun _ _ _ _ _ => (q_call c_Lfilled hr hgd rfl (qa_cons (qv 0) (qa_cons (qv 1) (qa_cons (qv 2) (qa_cons (qv 5) (qa_cons (qv 4) qa_nil)))))))) qa_nil))))))
/-! _law_make -/
abbrev st_Lmake : Stmt := top 19
abbrev N_Lmake : List Str := ["_law_deck_here", "_law_tools_here", "_law_known", "_law_kind", "_law_deep", "_law_same", "_law_way", "_law_calls", "_law_shape", "_law_name", "_law_one", "_law_own"]
abbrev P_Lmake : List Str := ["_law_deck_here", "_law_tools_here", "_law_known", "_law_kind", "_law_deep"]
theorem nd_Lmake : (N_Lmake).Nodup := by decide +kernel
theorem sc_Lmake : FnScope N_Lmake P_Lmake (defScope st_Lmake) := ⟨rfl, rfl, rfl, nd_Lmake, rfl, by decide +kernel, by decide +kernel⟩
def t_Lmake (n : Nat) : TTS := (tsSeq (tsAsg (tlc (tiItems (tbi oDictF (tac (tv 2) tan))) (btN [9, 10]) (tq (tb oEq (tv 10) (tv 3))) (ttup (tac (tc (.str "name")) (tac (tv 9) tan))) [9, 10]) (tgN 5)) (tsSeq (tsAsg (tcall 2 spDraw (tac (tv 0) (tac (tc (.int 12)) tan))) (tgN 6)) (tsSeq (tsIf (tand (tq (tb oEq (tb oIx (tv 1) (tc (.str "faults"))) (tc (.int 1)))) (tand (tq (tb oNe (tb oIx (tv 3) (tc (.int 0))) (tc (.str "fun")))) (tq (tb oEq (tv 6) (tc (.int 11)))))) (tsRet (ttup (tac (tc (.str "fault")) (tac (tv 3) tan)))) tsNx) (tsSeq (tsAsg (tcall 2 spCalls (tac (tv 2) (tac (tv 3) tan))) (tgN 7)) (tsSeq (tsIf (tand (tq (tb oNe (tv 5) (tlst tan))) (tor (tq (tb oLt (tv 6) (tc (.int 4)))) (tq (tb oLe (tv 4) (tc (.int 0)))))) (tsAsg (tcall 2 spPick (tac (tv 0) (tac (tv 5) tan))) (tgN 8)) (tsIf (tand (tq (tb oNe (tv 7) (tlst tan))) (tand (tq (tb oLt (tv 6) (tc (.int 8)))) (tq (tb oGt (tv 4) (tneg (tc (.int 2))))))) (tsAsg (tcall 2 spPick (tac (tv 0) (tac (tv 7) tan))) (tgN 8)) (tsIf (tor (tq (tb oLe (tv 4) (tc (.int 0)))) (tor (tq (tb oEq (tb oIx (tv 3) (tc (.int 0))) (tc (.str "fun")))) (tq (tb oGt (tbi oLen (tac (tbi oRepr (tac (tv 3) tan)) tan)) (tc (.int 200)))))) (tsAsg (tb oIx (tcall 4 spOwn (tac (tv 0) (tac (tv 1) (tac (tv 2) (tac (tv 3) tan))))) (tc (.int 0))) (tgN 8)) (tsSeq (tsAsg (tb oMul (tsl (tcall 4 spOwn (tac (tv 0) (tac (tv 1) (tac (tv 2) (tac (tv 3) tan))))) (tpt (tneg (tc (.int 2)))) tno) (tbi oInt (tac (tb oNe (tb oIx (tv 3) (tc (.int 0))) (tc (.str "open"))) tan))) (tgN 11)) (tsAsg (tcall 2 spPick (tac (tv 0) (tac (tb oAdd (tv 11) (tcall 4 spOther (tac (tv 0) (tac (tv 1) (tac (tv 2) (tac (tv 3) tan)))))) tan))) (tgN 8)))))) (tsRet (tcall 5 (spFilled n) (tac (tv 0) (tac (tv 1) (tac (tv 2) (tac (tv 8) (tac (tb oSub (tv 4) (tc (.int 1))) tan))))))))))))
theorem b_Lmake {P : Program} {w : World} {K : PySem.W.Frag} {mg : Str → Option Value} {base : Heap} {f : Addr} {cdv : Value} {A : Around} {outer : List Env} {s : Shared} {H : Hp} {E : XK} {k : Nat} {n : Nat}
    (hr : Room k (A.deeper (envOfC "_law_make" (defScope st_Lmake) s.heap.objs.size f cdv))) (hgd : (A.deeper (envOfC "_law_make" (defScope st_Lmake) s.heap.objs.size f cdv)).guards = some []) (c_Lfilled : Cal P w K mg base k "_law_filled" 5 (spFilled n)) (c_Lpick : Cal P w K mg base k "_law_pick" 2 spPick) (c_Lown_shapes : Cal P w K mg base k "_law_own_shapes" 4 spOwn) (c_Lother_shapes : Cal P w K mg base k "_law_other_shapes" 4 spOther) (c_Lcall_shapes : Cal P w K mg base k "_law_call_shapes" 2 spCalls) (c_Ldraw : Cal P w K mg base k "_law_draw" 2 spDraw) (n_dict : mg "dict" = none) (n_int : mg "int" = none) (n_len : mg "len" = none) (n_repr : mg "repr" = none) :
    QSs (cxOf CX0 P w K mg base N_Lmake "_law_make" (defScope st_Lmake) f cdv A outer s H E).nox (defBody st_Lmake) (t_Lmake n) :=
  (s_cons (s_setLc (own := [("_law_name", 9), ("_law_one", 10)]) (i := 5) rfl nd_Lmake rfl rfl (sw_true rfl rfl rfl (by decide +kernel)) (i_items (q_dictF rfl rfl n_dict (qa_cons (qv 2) qa_nil))) (blkOk_by (own := [("_law_name", 9), ("_law_one", 10)]) (N := N_Lmake) (sc := defScope st_Lmake) (by decide +kernel)) (tbindN (n := 2) rfl) (fun _ _ _ _ _ => pg_tup (n := 2) rfl (pgs_cons (pg_name (i := 9) nd_Lmake rfl (by first | exact Or.inl rfl | exact Or.inr rfl)) (pgs_cons (pg_name (i := 10) nd_Lmake rfl (by first | exact Or.inl rfl | exact Or.inr rfl)) pgs_nil))) (fun _ _ _ _ _ => ts_one (t_eq (ru hr) (qv 10) (qv 3))) (fun _ _ _ _ _ => (q_tup (qa_cons qc_str (qa_cons (qv 9) qa_nil))))) (s_cons (s_set (i := 6) nd_Lmake rfl (by first | exact Or.inl rfl | exact Or.inr rfl) (q_call c_Ldraw hr hgd rfl (qa_cons (qv 0) (qa_cons qc_int qa_nil)))) (s_cons (s_if (t_w (w_and (t_eq (ru hr) (q_ix (ru hr) (qv 1) qc_str) qc_int) (w_and (t_ne (ru hr) (q_ix (ru hr) (qv 3) qc_int) qc_str) (w_and1 (t_eq (ru hr) (qv 6) qc_int))))) (s_one (s_ret (q_tup (qa_cons qc_str (qa_cons (qv 3) qa_nil))))) s_nil) (s_cons (s_set (i := 7) nd_Lmake rfl (by first | exact Or.inl rfl | exact Or.inr rfl) (q_call c_Lcall_shapes hr hgd rfl (qa_cons (qv 2) (qa_cons (qv 3) qa_nil)))) (s_cons (s_if (t_w (w_and (t_ne (ru hr) (qv 5) (q_lst qa_nil)) (w_and1 (t_w (w_or (t_lt (qv 6) qc_int) (w_or1 (t_le (qv 4) qc_int))))))) (s_one (s_set (i := 8) nd_Lmake rfl (by first | exact Or.inl rfl | exact Or.inr rfl) (q_call c_Lpick hr hgd rfl (qa_cons (qv 0) (qa_cons (qv 5) qa_nil))))) (s_one (s_if (t_w (w_and (t_ne (ru hr) (qv 7) (q_lst qa_nil)) (w_and (t_lt (qv 6) qc_int) (w_and1 (t_gt (qv 4) (q_neg qc_int)))))) (s_one (s_set (i := 8) nd_Lmake rfl (by first | exact Or.inl rfl | exact Or.inr rfl) (q_call c_Lpick hr hgd rfl (qa_cons (qv 0) (qa_cons (qv 7) qa_nil))))) (s_one (s_if (t_w (w_or (t_le (qv 4) qc_int) (w_or (t_eq (ru hr) (q_ix (ru hr) (qv 3) qc_int) qc_str) (w_or1 (t_gt (q_len rfl n_len (qa_cons (q_repr hgd (ru hr) rfl n_repr (qa_cons (qv 3) qa_nil)) qa_nil)) qc_int))))) (s_one (s_set (i := 8) nd_Lmake rfl (by first | exact Or.inl rfl | exact Or.inr rfl) (q_ix (ru hr) (q_call c_Lown_shapes hr hgd rfl (qa_cons (qv 0) (qa_cons (qv 1) (qa_cons (qv 2) (qa_cons (qv 3) qa_nil))))) qc_int))) (s_cons (s_set (i := 11) nd_Lmake rfl (by first | exact Or.inl rfl | exact Or.inr rfl) (q_mul (q_sl (q_call c_Lown_shapes hr hgd rfl (qa_cons (qv 0) (qa_cons (qv 1) (qa_cons (qv 2) (qa_cons (qv 3) qa_nil))))) (qo_some (q_neg qc_int)) qo_none) (q_int rfl n_int (qa_cons (q_ne (ru hr) (q_ix (ru hr) (qv 3) qc_int) qc_str) qa_nil)))) (s_one (s_set (i := 8) nd_Lmake rfl (by first | exact Or.inl rfl | exact Or.inr rfl) (q_call c_Lpick hr hgd rfl (qa_cons (qv 0) (qa_cons (q_add (qv 11) (q_call c_Lother_shapes hr hgd rfl (qa_cons (qv 0) (qa_cons (qv 1) (qa_cons (qv 2) (qa_cons (qv 3) qa_nil)))))) qa_nil))))))))))) (s_one (s_ret (q_call c_Lfilled hr hgd rfl (qa_cons (qv 0) (qa_cons (qv 1) (qa_cons (qv 2) (qa_cons (qv 8) (qa_cons (q_sub (qv 4) qc_int) qa_nil)))))))))))))
/-! _law_measured -/
abbrev st_Lmeasured : Stmt := top 20
abbrev N_Lmeasured : List Str := ["_law_term_here", "_law_at", "_law_some", "_law_k", "_law_one"]
abbrev P_Lmeasured : List Str := ["_law_term_here"]
theorem nd_Lmeasured : (N_Lmeasured).Nodup := by decide +kernel
theorem sc_Lmeasured : FnScope N_Lmeasured P_Lmeasured (defScope st_Lmeasured) := ⟨rfl, rfl, rfl, nd_Lmeasured, rfl, by decide +kernel, by decide +kernel⟩
def t_Lmeasured (n : Nat) : TTS := (tsSeq (tsAsg (tdisp [((tc (.str "fun")), (tlst (tac (tc (.int 3)) tan))), ((tc (.str "left")), (tlst (tac (tc (.int 1)) tan))), ((tc (.str "right")), (tlst (tac (tc (.int 2)) tan))), ((tc (.str "case")), (tlst (tac (tc (.int 1)) (tac (tc (.int 3)) (tac (tc (.int 5)) tan))))), ((tc (.str "fold")), (tlst (tac (tc (.int 1)) (tac (tc (.int 2)) (tac (tc (.int 5)) tan))))), ((tc (.str "built")), (tlst (tac (tc (.int 5)) tan)))]) (tgN 1)) (tsSeq (tsAsg (tlst (tac (tc (.int 2)) (tac (tc (.int 4)) tan))) (tgSub (tv 1) (tc (.str "rounds")))) (tsSeq (tsIf (tq (tb (oInG false) (tb oIx (tv 0) (tc (.int 0))) (ttup (tac (tc (.str "name")) (tac (tc (.str "num")) (tac (tc (.str "truth")) (tac (tc (.str "none")) (tac (tc (.str "fault")) tan)))))))) (tsRet (ttup (tac (tc (.int 1)) (tac (tc (.int 1)) tan)))) tsNx) (tsSeq (tsIf (tq (tb (oInG false) (tb oIx (tv 0) (tc (.int 0))) (ttup (tac (tc (.str "first")) (tac (tc (.str "second")) (tac (tc (.str "if")) tan)))))) (tsAsg (tlRng2 (tc (.int 1)) (tbi oLen (tac (tv 0) tan))) (tgSub (tv 1) (tb oIx (tv 0) (tc (.int 0))))) tsNx) (tsSeq (tsAsg (tlc (tiSeq (tget2 (tv 1) (tb oIx (tv 0) (tc (.int 0))) (tlst (tac (tc (.int 1)) (tac (tc (.int 2)) tan))))) (bt1 3) ttYes (tcall 1 (spMeasured n) (tac (tb oIx (tv 0) (tv 3)) tan)) [3]) (tgN 2)) (tsRet (ttup (tac (tb oAdd (tc (.int 1)) (tbi oSum (tac (tlc (tiSeq (tv 2)) (bt1 4) ttYes (tb oIx (tv 4) (tc (.int 0))) [4]) tan))) (tac (tb oAdd (tc (.int 1)) (tbi oMaxL (tac (tb oAdd (tlst (tac (tc (.int 0)) tan)) (tlc (tiSeq (tv 2)) (bt1 4) ttYes (tb oIx (tv 4) (tc (.int 1))) [4])) tan))) tan)))))))))
theorem b_Lmeasured {P : Program} {w : World} {K : PySem.W.Frag} {mg : Str → Option Value} {base : Heap} {f : Addr} {cdv : Value} {A : Around} {outer : List Env} {s : Shared} {H : Hp} {E : XK} {k : Nat} {n : Nat}
    (hr : Room k (A.deeper (envOfC "_law_measured" (defScope st_Lmeasured) s.heap.objs.size f cdv))) (hgd : (A.deeper (envOfC "_law_measured" (defScope st_Lmeasured) s.heap.objs.size f cdv)).guards = some []) (c_Lmeasured : Cal P w K mg base k "_law_measured" 1 (spMeasured n)) (n_len : mg "len" = none) (n_list : mg "list" = none) (n_max : mg "max" = none) (n_range : mg "range" = none) (n_sum : mg "sum" = none) :
    QSs (cxOf CX0 P w K mg base N_Lmeasured "_law_measured" (defScope st_Lmeasured) f cdv A outer s H E).nox (defBody st_Lmeasured) (t_Lmeasured n) :=
  (s_cons (s_set (i := 1) nd_Lmeasured rfl (by first | exact Or.inl rfl | exact Or.inr rfl) (q_disp (qps_cons qc_str (q_lst (qa_cons qc_int qa_nil)) (qps_cons qc_str (q_lst (qa_cons qc_int qa_nil)) (qps_cons qc_str (q_lst (qa_cons qc_int qa_nil)) (qps_cons qc_str (q_lst (qa_cons qc_int (qa_cons qc_int (qa_cons qc_int qa_nil)))) (qps_cons qc_str (q_lst (qa_cons qc_int (qa_cons qc_int (qa_cons qc_int qa_nil)))) (qps_cons qc_str (q_lst (qa_cons qc_int qa_nil)) qps_nil)))))))) (s_cons (s_asg (q_lst (qa_cons qc_int (qa_cons qc_int qa_nil))) (g_sub (ru hr) (qv 1) qc_str)) (s_cons (s_if (t_in (ru hr) (q_ix (ru hr) (qv 0) qc_int) (q_tup (qa_cons qc_str (qa_cons qc_str (qa_cons qc_str (qa_cons qc_str (qa_cons qc_str qa_nil))))))) (s_one (s_ret (q_tup (qa_cons qc_int (qa_cons qc_int qa_nil))))) s_nil) (s_cons (s_if (t_in (ru hr) (q_ix (ru hr) (qv 0) qc_int) (q_tup (qa_cons qc_str (qa_cons qc_str (qa_cons qc_str qa_nil))))) (s_one (s_asg (q_lstRng2 rfl rfl n_list rfl n_range qc_int (q_len rfl n_len (qa_cons (qv 0) qa_nil))) (g_sub (ru hr) (qv 1) (q_ix (ru hr) (qv 0) qc_int)))) s_nil) (s_cons (s_setLc (own := [("_law_k", 3)]) (i := 2) rfl nd_Lmeasured rfl rfl (sw_true rfl rfl rfl (by decide +kernel)) (i_seq (q_get2 (ru hr) (qv 1) (q_ix (ru hr) (qv 0) qc_int) (q_lst (qa_cons qc_int (qa_cons qc_int qa_nil))))) (blkOk_by (own := [("_law_k", 3)]) (N := N_Lmeasured) (sc := defScope st_Lmeasured) (by decide +kernel)) (tbind1 (i := 3)) (fun _ _ _ _ _ => pg_name (i := 3) nd_Lmeasured rfl (by first | exact Or.inl rfl | exact Or.inr rfl)) (fun _ _ _ _ _ => ts_nil) (fun _ _ _ _ _ => (q_call c_Lmeasured hr hgd rfl (qa_cons (q_ix (ru hr) (qv 0) (qv 3)) qa_nil)))) (s_one (s_ret (q_tup (qa_cons (q_add qc_int (q_sum rfl rfl n_sum (qa_cons (q_lc (own := [("_law_one", 4)]) rfl nd_Lmeasured (i_seq (qv 2)) (blkOk_by (own := [("_law_one", 4)]) (N := N_Lmeasured) (sc := defScope st_Lmeasured) (by decide +kernel)) (tbind1 (i := 4)) (fun _ _ _ _ _ => pg_name (i := 4) nd_Lmeasured rfl (by first | exact Or.inl rfl | exact Or.inr rfl)) (fun _ _ _ _ _ => ts_nil) (fun _ _ _ _ _ => (q_ix (ru hr) (qv 4) qc_int))) qa_nil))) (qa_cons (q_add qc_int (q_maxL rfl rfl n_max (qa_cons (q_add (q_lst (qa_cons qc_int qa_nil)) (q_lc (own := [("_law_one", 4)]) rfl nd_Lmeasured (i_seq (qv 2)) (blkOk_by (own := [("_law_one", 4)]) (N := N_Lmeasured) (sc := defScope st_Lmeasured) (by decide +kernel)) (tbind1 (i := 4)) (fun _ _ _ _ _ => pg_name (i := 4) nd_Lmeasured rfl (by first | exact Or.inl rfl | exact Or.inr rfl)) (fun _ _ _ _ _ => ts_nil) (fun _ _ _ _ _ => (q_ix (ru hr) (qv 4) qc_int)))) qa_nil))) qa_nil))))))))))
/-! _law_term -/
abbrev st_Lterm : Stmt := top 21
abbrev N_Lterm : List Str := ["_law_deck_here", "_law_tools_here", "_law_known", "_law_kind", "_law_deep", "_law_less", "_law_term_here", "_law_many", "_law_within"]
abbrev P_Lterm : List Str := ["_law_deck_here", "_law_tools_here", "_law_known", "_law_kind", "_law_deep"]
theorem nd_Lterm : (N_Lterm).Nodup := by decide +kernel
theorem sc_Lterm : FnScope N_Lterm P_Lterm (defScope st_Lterm) := ⟨rfl, rfl, rfl, nd_Lterm, rfl, by decide +kernel, by decide +kernel⟩
def t_Lterm (n : Nat) : TTS := (tsSeq (tsFor (tiRng1 (tac (tc (.int 3)) tan)) (tgN 5) (tsSeq (tsAsg (tcall 5 (spMake n) (tac (tv 0) (tac (tv 1) (tac (tv 2) (tac (tv 3) (tac (tb oSub (tv 4) (tb oMul (tc (.int 2)) (tv 5))) tan)))))) (tgN 6)) (tsSeq (tsAsg (tcall 1 (spMeasured n) (tac (tv 6) tan)) (tgTup 2 (tgsCons (tgN 7) (tgsCons (tgN 8) tgsNil)))) (tsIf (tand (tq (tb oLe (tv 7) (tc (.int 60)))) (tq (tb oLe (tv 8) (tc (.int 12))))) (tsRet (tv 6)) tsNx)))) (tsSeq (tsAsg (tc (.int 0)) (tgSub (tv 1) (tc (.str "faults")))) (tsRet (tcall 5 (spMake n) (tac (tv 0) (tac (tv 1) (tac (tv 2) (tac (tv 3) (tac (tneg (tc (.int 2))) tan)))))))))
theorem b_Lterm {P : Program} {w : World} {K : PySem.W.Frag} {mg : Str → Option Value} {base : Heap} {f : Addr} {cdv : Value} {A : Around} {outer : List Env} {s : Shared} {H : Hp} {E : XK} {k : Nat} {n : Nat}
    (hr : Room k (A.deeper (envOfC "_law_term" (defScope st_Lterm) s.heap.objs.size f cdv))) (hgd : (A.deeper (envOfC "_law_term" (defScope st_Lterm) s.heap.objs.size f cdv)).guards = some []) (c_Lmake : Cal P w K mg base k "_law_make" 5 (spMake n)) (c_Lmeasured : Cal P w K mg base k "_law_measured" 1 (spMeasured n)) (n_range : mg "range" = none) :
    QSs (cxOf CX0 P w K mg base N_Lterm "_law_term" (defScope st_Lterm) f cdv A outer s H E).nox (defBody st_Lterm) (t_Lterm n) :=
  (s_cons (s_for PassesOwn.never rfl (i_range1 rfl n_range (qa_cons qc_int qa_nil)) (g_name (i := 5) nd_Lterm rfl (by first | exact Or.inl rfl | exact Or.inr rfl)) (s_cons (s_set (i := 6) nd_Lterm rfl (by first | exact Or.inl rfl | exact Or.inr rfl) (q_call c_Lmake hr hgd rfl (qa_cons (qv 0) (qa_cons (qv 1) (qa_cons (qv 2) (qa_cons (qv 3) (qa_cons (q_sub (qv 4) (q_mul qc_int (qv 5))) qa_nil))))))) (s_cons (s_asg (q_call c_Lmeasured hr hgd rfl (qa_cons (qv 6) qa_nil)) (g_tup (n := 2) rfl (gs_cons (g_name (i := 7) nd_Lterm rfl (by first | exact Or.inl rfl | exact Or.inr rfl)) (gs_cons (g_name (i := 8) nd_Lterm rfl (by first | exact Or.inl rfl | exact Or.inr rfl)) gs_nil)))) (s_one (s_if (t_w (w_and (t_le (qv 7) qc_int) (w_and1 (t_le (qv 8) qc_int)))) (s_one (s_ret (qv 6))) s_nil))))) (s_cons (s_asg qc_int (g_sub (ru hr) (qv 1) qc_str)) (s_one (s_ret (q_call c_Lmake hr hgd rfl (qa_cons (qv 0) (qa_cons (qv 1) (qa_cons (qv 2) (qa_cons (qv 3) (qa_cons (q_neg qc_int) qa_nil))))))))))
/-! _law_tools -/
abbrev st_Ltools : Stmt := top 22
abbrev N_Ltools : List Str := ["_law_names_here", "_law_looked", "_law_faults", "_law_words", "_law_tools_here"]
abbrev P_Ltools : List Str := ["_law_names_here", "_law_looked", "_law_faults", "_law_words"]
theorem nd_Ltools : (N_Ltools).Nodup := by decide +kernel
theorem sc_Ltools : FnScope N_Ltools P_Ltools (defScope st_Ltools) := ⟨rfl, rfl, rfl, nd_Ltools, rfl, by decide +kernel, by decide +kernel⟩
def t_Ltools : TTS := (tsSeq (tsAsg (tdisp [((tc (.str "opens")), (tsl (tv 0) tno (tpt (tc (.int 2))))), ((tc (.str "looked")), (tv 1)), ((tc (.str "names")), (tsl (tv 0) (tpt (tc (.int 2))) (tpt (tc (.int 5))))), ((tc (.str "own")), (tb oIx (tv 0) (tc (.int 5)))), ((tc (.str "faults")), (tv 2))]) (tgN 4)) (tsSeq (tsAsg (tv 3) (tgSub (tv 4) (tc (.str "words")))) (tsRet (tv 4))))
theorem b_Ltools {P : Program} {w : World} {K : PySem.W.Frag} {mg : Str → Option Value} {base : Heap} {f : Addr} {cdv : Value} {A : Around} {outer : List Env} {s : Shared} {H : Hp} {E : XK} {k : Nat}
    (hr : Room k (A.deeper (envOfC "_law_tools" (defScope st_Ltools) s.heap.objs.size f cdv))) (hgd : (A.deeper (envOfC "_law_tools" (defScope st_Ltools) s.heap.objs.size f cdv)).guards = some []) :
    QSs (cxOf CX0 P w K mg base N_Ltools "_law_tools" (defScope st_Ltools) f cdv A outer s H E).nox (defBody st_Ltools) t_Ltools :=
  (s_cons (s_set (i := 4) nd_Ltools rfl (by first | exact Or.inl rfl | exact Or.inr rfl) (q_disp (qps_cons qc_str (q_sl (qv 0) qo_none (qo_some qc_int)) (qps_cons qc_str (qv 1) (qps_cons qc_str (q_sl (qv 0) (qo_some qc_int) (qo_some qc_int)) (qps_cons qc_str (q_ix (ru hr) (qv 0) qc_int) (qps_cons qc_str (qv 2) qps_nil))))))) (s_cons (s_asg (qv 3) (g_sub (ru hr) (qv 4) qc_str)) (s_one (s_ret (qv 4)))))
/-! _law_data_function -/
abbrev st_Ldata_function : Stmt := top 23
abbrev N_Ldata_function : List Str := ["_law_deck_here", "_law_opens", "_law_many", "_law_kind", "_law_k"]
abbrev P_Ldata_function : List Str := ["_law_deck_here", "_law_opens", "_law_many"]
theorem nd_Ldata_function : (N_Ldata_function).Nodup := by decide +kernel
theorem sc_Ldata_function : FnScope N_Ldata_function P_Ldata_function (defScope st_Ldata_function) := ⟨rfl, rfl, rfl, nd_Ldata_function, rfl, by decide +kernel, by decide +kernel⟩
def t_Ldata_function (n : Nat) : TTS := (tsSeq (tsAsg (tcall 4 (spData n) (tac (tv 0) (tac (tv 1) (tac (tc (.int 2)) (tac (tc (.bl false)) tan))))) (tgN 3)) (tsSeq (tsFor (tiRng1 (tac (tv 2) tan)) (tgN 4) (tsAsg (ttup (tac (tc (.str "fun")) (tac (tcall 4 (spData n) (tac (tv 0) (tac (tv 1) (tac (tc (.int 2)) (tac (tc (.bl false)) tan))))) (tac (tv 3) tan)))) (tgN 3))) (tsRet (tv 3))))
theorem b_Ldata_function {P : Program} {w : World} {K : PySem.W.Frag} {mg : Str → Option Value} {base : Heap} {f : Addr} {cdv : Value} {A : Around} {outer : List Env} {s : Shared} {H : Hp} {E : XK} {k : Nat} {n : Nat}
    (hr : Room k (A.deeper (envOfC "_law_data_function" (defScope st_Ldata_function) s.heap.objs.size f cdv))) (hgd : (A.deeper (envOfC "_law_data_function" (defScope st_Ldata_function) s.heap.objs.size f cdv)).guards = some []) (c_Ldata : Cal P w K mg base k "_law_data" 4 (spData n)) (n_range : mg "range" = none) :
    QSs (cxOf CX0 P w K mg base N_Ldata_function "_law_data_function" (defScope st_Ldata_function) f cdv A outer s H E).nox (defBody st_Ldata_function) (t_Ldata_function n) :=
  (s_cons (s_set (i := 3) nd_Ldata_function rfl (by first | exact Or.inl rfl | exact Or.inr rfl) (q_call c_Ldata hr hgd rfl (qa_cons (qv 0) (qa_cons (qv 1) (qa_cons qc_int (qa_cons qc_bl qa_nil)))))) (s_cons (s_for PassesOwn.never rfl (i_range1 rfl n_range (qa_cons (qv 2) qa_nil)) (g_name (i := 4) nd_Ldata_function rfl (by first | exact Or.inl rfl | exact Or.inr rfl)) (s_one (s_set (i := 3) nd_Ldata_function rfl (by first | exact Or.inl rfl | exact Or.inr rfl) (q_tup (qa_cons qc_str (qa_cons (q_call c_Ldata hr hgd rfl (qa_cons (qv 0) (qa_cons (qv 1) (qa_cons qc_int (qa_cons qc_bl qa_nil))))) (qa_cons (qv 3) qa_nil))))))) (s_one (s_ret (qv 3)))))
/-! _law_more -/
abbrev st_Lmore : Stmt := top 24
abbrev N_Lmore : List Str := ["_law_term_here", "_law_by", "_law_found", "_law_part"]
abbrev P_Lmore : List Str := ["_law_term_here", "_law_by"]
theorem nd_Lmore : (N_Lmore).Nodup := by decide +kernel
theorem sc_Lmore : FnScope N_Lmore P_Lmore (defScope st_Lmore) := ⟨rfl, rfl, rfl, nd_Lmore, rfl, by decide +kernel, by decide +kernel⟩
def t_Lmore (n : Nat) : TTS := (tsSeq (tsIf (tnot (tq (tisi "tuple" (tv 0)))) (tsRet (tv 0)) tsNx) (tsSeq (tsAsg (tbi oTup (tac (tlc (tiSeq (tv 0)) (bt1 3) ttYes (tcall 2 (spLmore n) (tac (tv 3) (tac (tv 1) tan))) [3]) tan)) (tgN 2)) (tsSeq (tsIf (tand (tq (tb oEq (tsl (tv 2) tno (tpt (tc (.int 1)))) (ttup (tac (tc (.str "rounds")) tan)))) (tq (tb oEq (tbi oLen (tac (tv 2) tan)) (tc (.int 5))))) (tsRet (tb oAdd (ttup (tac (tc (.str "rounds")) (tac (tbi oMin2 (tac (tc (.int 30)) (tac (tb oAdd (tb oIx (tv 2) (tc (.int 1))) (tv 1)) tan))) tan))) (tsl (tv 2) (tpt (tc (.int 2))) tno))) tsNx) (tsRet (tv 2)))))
theorem b_Lmore {P : Program} {w : World} {K : PySem.W.Frag} {mg : Str → Option Value} {base : Heap} {f : Addr} {cdv : Value} {A : Around} {outer : List Env} {s : Shared} {H : Hp} {E : XK} {k : Nat} {n : Nat}
    (hr : Room k (A.deeper (envOfC "_law_more" (defScope st_Lmore) s.heap.objs.size f cdv))) (hgd : (A.deeper (envOfC "_law_more" (defScope st_Lmore) s.heap.objs.size f cdv)).guards = some []) (c_Lmore : Cal P w K mg base k "_law_more" 2 (spLmore n)) (n_isinstance : mg "isinstance" = none) (n_len : mg "len" = none) (n_min : mg "min" = none) (n_tuple : mg "tuple" = none) :
    QSs (cxOf CX0 P w K mg base N_Lmore "_law_more" (defScope st_Lmore) f cdv A outer s H E).nox (defBody st_Lmore) (t_Lmore n) :=
  (s_cons (s_if (t_not (t_val (q_isi rfl n_isinstance rfl n_tuple (by decide +kernel) tyOk_tuple (qv 0)))) (s_one (s_ret (qv 0))) s_nil) (s_cons (s_set (i := 2) nd_Lmore rfl (by first | exact Or.inl rfl | exact Or.inr rfl) (q_tuple rfl n_tuple (qa_cons (q_lc (own := [("_law_part", 3)]) rfl nd_Lmore (i_seq (qv 0)) (blkOk_by (own := [("_law_part", 3)]) (N := N_Lmore) (sc := defScope st_Lmore) (by decide +kernel)) (tbind1 (i := 3)) (fun _ _ _ _ _ => pg_name (i := 3) nd_Lmore rfl (by first | exact Or.inl rfl | exact Or.inr rfl)) (fun _ _ _ _ _ => ts_nil) (fun _ _ _ _ _ => (q_call c_Lmore hr hgd rfl (qa_cons (qv 3) (qa_cons (qv 1) qa_nil))))) qa_nil))) (s_cons (s_if (t_w (w_and (t_eq (ru hr) (q_sl (qv 2) qo_none (qo_some qc_int)) (q_tup (qa_cons qc_str qa_nil))) (w_and1 (t_eq (ru hr) (q_len rfl n_len (qa_cons (qv 2) qa_nil)) qc_int)))) (s_one (s_ret (q_add (q_tup (qa_cons qc_str (qa_cons (q_min2 rfl rfl n_min (qa_cons qc_int (qa_cons (q_add (q_ix (ru hr) (qv 2) qc_int) (qv 1)) qa_nil))) qa_nil))) (q_sl (qv 2) (qo_some qc_int) qo_none)))) s_nil) (s_one (s_ret (qv 2))))))
/-! _law_tower -/
abbrev st_Ltower : Stmt := top 25
abbrev N_Ltower : List Str := ["_law_deck_here", "_law_names_here", "_law_term_here", "_law_k", "_law_many", "_law_over", "_law_some"]
abbrev P_Ltower : List Str := ["_law_deck_here", "_law_names_here"]
theorem nd_Ltower : (N_Ltower).Nodup := by decide +kernel
theorem sc_Ltower : FnScope N_Ltower P_Ltower (defScope st_Ltower) := ⟨rfl, rfl, rfl, nd_Ltower, rfl, by decide +kernel, by decide +kernel⟩
def t_Ltower : TTS := (tsSeq (tsAsg (ttup (tac (tc (.str "truth")) (tac (tc (.bl true)) tan))) (tgN 2)) (tsSeq (tsFor (tiRng1 (tac (tc (.int 9)) tan)) (tgN 3) (tsSeq (tsAsg (tb oAdd (tc (.int 1)) (tcall 2 spDraw (tac (tv 0) (tac (tc (.int 30)) tan)))) (tgN 4)) (tsSeq (tsAsg (ttup (tac (tc (.str "right")) (tac (ttup (tac (tc (.str "truth")) tan)) (tac (tv 2) tan)))) (tgN 5)) (tsSeq (tsAsg (tlst (tac (ttup (tac (tc (.str "rounds")) (tac (tv 4) (tac (tv 2) (tac (tb oIx (tv 1) (tc (.int 2))) (tac (ttup (tac (tc (.str "right")) (tac (ttup (tac (tc (.str "truth")) tan)) (tac (ttup (tac (tc (.str "name")) (tac (tb oIx (tv 1) (tc (.int 2))) tan))) tan)))) tan)))))) tan)) (tgN 6)) (tsSeq (tsDrop (tml oAppend (tv 6) (ttup (tac (tc (.str "rounds")) (tac (tv 4) (tac (ttup (tac (tc (.str "truth")) (tac (tc (.bl false)) tan))) (tac (tb oIx (tv 1) (tc (.int 2))) (tac (tv 5) tan)))))))) (tsAsg (tb oIx (tv 6) (tcall 2 spDraw (tac (tv 0) (tac (tc (.int 2)) tan)))) (tgN 2))))))) (tsRet (tv 2))))
theorem b_Ltower {P : Program} {w : World} {K : PySem.W.Frag} {mg : Str → Option Value} {base : Heap} {f : Addr} {cdv : Value} {A : Around} {outer : List Env} {s : Shared} {H : Hp} {E : XK} {k : Nat}
    (hr : Room k (A.deeper (envOfC "_law_tower" (defScope st_Ltower) s.heap.objs.size f cdv))) (hgd : (A.deeper (envOfC "_law_tower" (defScope st_Ltower) s.heap.objs.size f cdv)).guards = some []) (c_Ldraw : Cal P w K mg base k "_law_draw" 2 spDraw) (n_range : mg "range" = none) :
    QSs (cxOf CX0 P w K mg base N_Ltower "_law_tower" (defScope st_Ltower) f cdv A outer s H E).nox (defBody st_Ltower) t_Ltower :=
  (s_cons (s_set (i := 2) nd_Ltower rfl (by first | exact Or.inl rfl | exact Or.inr rfl) (q_tup (qa_cons qc_str (qa_cons qc_bl qa_nil)))) (s_cons (s_for PassesOwn.never rfl (i_range1 rfl n_range (qa_cons qc_int qa_nil)) (g_name (i := 3) nd_Ltower rfl (by first | exact Or.inl rfl | exact Or.inr rfl)) (s_cons (s_set (i := 4) nd_Ltower rfl (by first | exact Or.inl rfl | exact Or.inr rfl) (q_add qc_int (q_call c_Ldraw hr hgd rfl (qa_cons (qv 0) (qa_cons qc_int qa_nil))))) (s_cons (s_set (i := 5) nd_Ltower rfl (by first | exact Or.inl rfl | exact Or.inr rfl) (q_tup (qa_cons qc_str (qa_cons (q_tup (qa_cons qc_str qa_nil)) (qa_cons (qv 2) qa_nil))))) (s_cons (s_set (i := 6) nd_Ltower rfl (by first | exact Or.inl rfl | exact Or.inr rfl) (q_lst (qa_cons (q_tup (qa_cons qc_str (qa_cons (qv 4) (qa_cons (qv 2) (qa_cons (q_ix (ru hr) (qv 1) qc_int) (qa_cons (q_tup (qa_cons qc_str (qa_cons (q_tup (qa_cons qc_str qa_nil)) (qa_cons (q_tup (qa_cons qc_str (qa_cons (q_ix (ru hr) (qv 1) qc_int) qa_nil))) qa_nil)))) qa_nil)))))) qa_nil))) (s_cons (s_expr (q_append (qv 6) (q_tup (qa_cons qc_str (qa_cons (qv 4) (qa_cons (q_tup (qa_cons qc_str (qa_cons qc_bl qa_nil))) (qa_cons (q_ix (ru hr) (qv 1) qc_int) (qa_cons (qv 5) qa_nil)))))))) (s_one (s_set (i := 2) nd_Ltower rfl (by first | exact Or.inl rfl | exact Or.inr rfl) (q_ix (ru hr) (qv 6) (q_call c_Ldraw hr hgd rfl (qa_cons (qv 0) (qa_cons qc_int qa_nil))))))))))) (s_one (s_ret (qv 2)))))
/-! _law_right -/
abbrev st_Lright : Stmt := top 26
abbrev N_Lright : List Str := ["_law_term_here", "_law_by", "_law_due", "_law_turn", "_law_found"]
abbrev P_Lright : List Str := ["_law_term_here", "_law_by"]
theorem nd_Lright : (N_Lright).Nodup := by decide +kernel
theorem sc_Lright : FnScope N_Lright P_Lright (defScope st_Lright) := ⟨rfl, rfl, rfl, nd_Lright, rfl, by decide +kernel, by decide +kernel⟩
def t_Lright (n : Nat) : TTS := (tsSeq (tsAsg (tcall 2 (spLmore n) (tac (tv 0) (tac (tv 1) tan))) (tgN 2)) (tsSeq (tsFor (tiRng1 (tac (tc (.int 2)) tan)) (tgN 3) (tsSeq (tsAsg (tcall 2 (spRounds n) (tac (tv 0) (tac (tv 1) tan))) (tgN 4)) (tsIf (tor (tnot (tq (tisi "tuple" (tv 4)))) (tor (tq (tb oNe (tv 4) (tv 2))) (tq (tb oNe (tbi oRepr (tac (tv 4) tan)) (tbi oRepr (tac (tv 2) tan)))))) (tsRet (tc (.bl false))) tsNx))) (tsRet (tc (.bl true)))))
theorem b_Lright {P : Program} {w : World} {K : PySem.W.Frag} {mg : Str → Option Value} {base : Heap} {f : Addr} {cdv : Value} {A : Around} {outer : List Env} {s : Shared} {H : Hp} {E : XK} {k : Nat} {n : Nat}
    (hr : Room k (A.deeper (envOfC "_law_right" (defScope st_Lright) s.heap.objs.size f cdv))) (hgd : (A.deeper (envOfC "_law_right" (defScope st_Lright) s.heap.objs.size f cdv)).guards = some []) (c_more_rounds : Cal P w K mg base k "more_rounds" 2 (spRounds n)) (c_Lmore : Cal P w K mg base k "_law_more" 2 (spLmore n)) (n_isinstance : mg "isinstance" = none) (n_range : mg "range" = none) (n_repr : mg "repr" = none) (n_tuple : mg "tuple" = none) :
    QSs (cxOf CX0 P w K mg base N_Lright "_law_right" (defScope st_Lright) f cdv A outer s H E).nox (defBody st_Lright) (t_Lright n) :=
  (s_cons (s_set (i := 2) nd_Lright rfl (by first | exact Or.inl rfl | exact Or.inr rfl) (q_call c_Lmore hr hgd rfl (qa_cons (qv 0) (qa_cons (qv 1) qa_nil)))) (s_cons (s_for PassesOwn.never rfl (i_range1 rfl n_range (qa_cons qc_int qa_nil)) (g_name (i := 3) nd_Lright rfl (by first | exact Or.inl rfl | exact Or.inr rfl)) (s_cons (s_set (i := 4) nd_Lright rfl (by first | exact Or.inl rfl | exact Or.inr rfl) (q_call c_more_rounds hr hgd rfl (qa_cons (qv 0) (qa_cons (qv 1) qa_nil)))) (s_one (s_if (t_w (w_or (t_not (t_val (q_isi rfl n_isinstance rfl n_tuple (by decide +kernel) tyOk_tuple (qv 4)))) (w_or (t_ne (ru hr) (qv 4) (qv 2)) (w_or1 (t_ne (ru hr) (q_repr hgd (ru hr) rfl n_repr (qa_cons (qv 4) qa_nil)) (q_repr hgd (ru hr) rfl n_repr (qa_cons (qv 2) qa_nil))))))) (s_one (s_ret qc_bl)) s_nil)))) (s_one (s_ret qc_bl))))
/-! law -/
abbrev st_law : Stmt := top 27
abbrev N_law : List Str := ["_law_script", "_law_words", "_law_k", "_law_deck_here", "_law_tower_here", "_law_by", "_law_names_here", "_law_kind", "_law_term_here"]
abbrev P_law : List Str := ["_law_script"]
theorem nd_law : (N_law).Nodup := by decide +kernel
theorem sc_law : FnScope N_law P_law (defScope st_law) := ⟨rfl, rfl, rfl, nd_law, rfl, by decide +kernel, by decide +kernel⟩
def t_law (n : Nat) : TTS := (tsSeq (tsAsg (tlst (tac (tc (.str "rounds")) (tac (tc (.str "if")) (tac (tc (.str "rounds")) (tac (tc (.str "case")) (tac (tc (.str "fold")) (tac (tc (.str "rounds")) (tac (tc (.str "call")) (tac (tc (.str "built")) (tac (tc (.str "part")) tan)))))))))) (tgN 1)) (tsSeq (tsFor (tiRng1 (tac (tbi oMax2 (tac (tc (.int 1)) (tac (tbi oMin2 (tac (tbi oLen (tac (tv 0) tan)) (tac (tc (.int 4)) tan))) tan))) tan)) (tgN 2) (tsSeq (tsAsg (tcall 1 spDeck (tac (tb oAdd (tb oAdd (tsl (tv 0) (tpt (tv 2)) (tpt (tb oAdd (tv 2) (tc (.int 1))))) (tsl (tv 0) tno (tpt (tv 2)))) (tsl (tv 0) (tpt (tb oAdd (tv 2) (tc (.int 1)))) tno)) tan)) (tgN 3)) (tsSeq (tsAsg (tb oEq (tcall 2 spDraw (tac (tv 3) (tac (tc (.int 8)) tan))) (tc (.int 5))) (tgN 4)) (tsSeq (tsAsg (tb oIx (tlst (tac (tc (.int 0)) (tac (tc (.int 1)) (tac (tc (.int 2)) (tac (tc (.int 3)) (tac (tc (.int 28)) (tac (tc (.int 29)) (tac (tc (.int 30)) (tac (tcall 2 spDraw (tac (tv 3) (tac (tb oPow (tc (.int 10)) (tc (.int 30))) tan))) tan))))))))) (tcall 2 spDraw (tac (tv 3) (tac (tc (.int 8)) tan)))) (tgN 5)) (tsSeq (tsAsg (tcall 2 spNames (tac (tv 3) (tac (tc (.int 6)) tan))) (tgN 6)) (tsSeq (tsAsg (tcall 3 spDataF (tac (tv 3) (tac (tsl (tv 6) tno (tpt (tc (.int 2)))) (tac (tcall 2 spDraw (tac (tv 3) (tac (tc (.int 4)) tan))) tan)))) (tgN 7)) (tsSeq (tsAsg (tcall 5 spTerm (tac (tv 3) (tac (tcall 4 spTools (tac (tv 6) (tac (tsl (tv 6) tno (tpt (tc (.int 1)))) (tac (tc (.int 1)) (tac (tv 1) tan))))) (tac (tlst tan) (tac (tv 7) (tac (tc (.int 6)) tan)))))) (tgN 8)) (tsSeq (tsIf (tq (tv 4)) (tsAsg (tcall 2 spTower (tac (tv 3) (tac (tv 6) tan))) (tgN 8)) tsNx) (tsSeq (tsIf (tor (tnot (tq (tcall 2 spRight (tac (tv 8) (tac (tv 5) tan))))) (tnot (tq (tcall 2 spRight (tac (tv 8) (tac (tc (.int 0)) tan)))))) (tsRet (tc (.bl false))) tsNx) (tsIf (tq (tb oNe (tcall 2 (spRounds n) (tac (tcall 2 (spRounds n) (tac (tv 8) (tac (tc (.int 1)) tan))) (tac (tc (.int 1)) tan))) (tcall 2 (spRounds n) (tac (tv 8) (tac (tc (.int 2)) tan))))) (tsRet (tc (.bl false))) tsNx)))))))))) (tsRet (tc (.bl true)))))
theorem b_law {P : Program} {w : World} {K : PySem.W.Frag} {mg : Str → Option Value} {base : Heap} {f : Addr} {cdv : Value} {A : Around} {outer : List Env} {s : Shared} {H : Hp} {E : XK} {k : Nat} {n : Nat}
    (hr : Room k (A.deeper (envOfC "law" (defScope st_law) s.heap.objs.size f cdv))) (hgd : (A.deeper (envOfC "law" (defScope st_law) s.heap.objs.size f cdv)).guards = some []) (c_more_rounds : Cal P w K mg base k "more_rounds" 2 (spRounds n)) (c_Lright : Cal P w K mg base k "_law_right" 2 spRight) (c_Ltower : Cal P w K mg base k "_law_tower" 2 spTower) (c_Lterm : Cal P w K mg base k "_law_term" 5 spTerm) (c_Ltools : Cal P w K mg base k "_law_tools" 4 spTools) (c_Ldata_function : Cal P w K mg base k "_law_data_function" 3 spDataF) (c_Ldraw : Cal P w K mg base k "_law_draw" 2 spDraw) (c_Lnames : Cal P w K mg base k "_law_names" 2 spNames) (c_Ldeck : Cal P w K mg base k "_law_deck" 1 spDeck) (n_len : mg "len" = none) (n_max : mg "max" = none) (n_min : mg "min" = none) (n_range : mg "range" = none) :
    QSs (cxOf CX0 P w K mg base N_law "law" (defScope st_law) f cdv A outer s H E).nox (defBody st_law) (t_law n) :=
  (s_cons (s_set (i := 1) nd_law rfl (by first | exact Or.inl rfl | exact Or.inr rfl) (q_lst (qa_cons qc_str (qa_cons qc_str (qa_cons qc_str (qa_cons qc_str (qa_cons qc_str (qa_cons qc_str (qa_cons qc_str (qa_cons qc_str (qa_cons qc_str qa_nil))))))))))) (s_cons (s_for PassesOwn.never rfl (i_range1 rfl n_range (qa_cons (q_max2 rfl rfl n_max (qa_cons qc_int (qa_cons (q_min2 rfl rfl n_min (qa_cons (q_len rfl n_len (qa_cons (qv 0) qa_nil)) (qa_cons qc_int qa_nil))) qa_nil))) qa_nil)) (g_name (i := 2) nd_law rfl (by first | exact Or.inl rfl | exact Or.inr rfl)) (s_cons (s_set (i := 3) nd_law rfl (by first | exact Or.inl rfl | exact Or.inr rfl) (q_call c_Ldeck hr hgd rfl (qa_cons (q_add (q_add (q_sl (qv 0) (qo_some (qv 2)) (qo_some (q_add (qv 2) qc_int))) (q_sl (qv 0) qo_none (qo_some (qv 2)))) (q_sl (qv 0) (qo_some (q_add (qv 2) qc_int)) qo_none)) qa_nil))) (s_cons (s_set (i := 4) nd_law rfl (by first | exact Or.inl rfl | exact Or.inr rfl) (q_eq (ru hr) (q_call c_Ldraw hr hgd rfl (qa_cons (qv 3) (qa_cons qc_int qa_nil))) qc_int)) (s_cons (s_set (i := 5) nd_law rfl (by first | exact Or.inl rfl | exact Or.inr rfl) (q_ix (ru hr) (q_lst (qa_cons qc_int (qa_cons qc_int (qa_cons qc_int (qa_cons qc_int (qa_cons qc_int (qa_cons qc_int (qa_cons qc_int (qa_cons (q_call c_Ldraw hr hgd rfl (qa_cons (qv 3) (qa_cons (q_pow qc_int qc_int) qa_nil))) qa_nil))))))))) (q_call c_Ldraw hr hgd rfl (qa_cons (qv 3) (qa_cons qc_int qa_nil))))) (s_cons (s_set (i := 6) nd_law rfl (by first | exact Or.inl rfl | exact Or.inr rfl) (q_call c_Lnames hr hgd rfl (qa_cons (qv 3) (qa_cons qc_int qa_nil)))) (s_cons (s_set (i := 7) nd_law rfl (by first | exact Or.inl rfl | exact Or.inr rfl) (q_call c_Ldata_function hr hgd rfl (qa_cons (qv 3) (qa_cons (q_sl (qv 6) qo_none (qo_some qc_int)) (qa_cons (q_call c_Ldraw hr hgd rfl (qa_cons (qv 3) (qa_cons qc_int qa_nil))) qa_nil))))) (s_cons (s_set (i := 8) nd_law rfl (by first | exact Or.inl rfl | exact Or.inr rfl) (q_call c_Lterm hr hgd rfl (qa_cons (qv 3) (qa_cons (q_call c_Ltools hr hgd rfl (qa_cons (qv 6) (qa_cons (q_sl (qv 6) qo_none (qo_some qc_int)) (qa_cons qc_int (qa_cons (qv 1) qa_nil))))) (qa_cons (q_lst qa_nil) (qa_cons (qv 7) (qa_cons qc_int qa_nil))))))) (s_cons (s_if (t_val (qv 4)) (s_one (s_set (i := 8) nd_law rfl (by first | exact Or.inl rfl | exact Or.inr rfl) (q_call c_Ltower hr hgd rfl (qa_cons (qv 3) (qa_cons (qv 6) qa_nil))))) s_nil) (s_cons (s_if (t_w (w_or (t_not (t_val (q_call c_Lright hr hgd rfl (qa_cons (qv 8) (qa_cons (qv 5) qa_nil))))) (w_or1 (t_not (t_val (q_call c_Lright hr hgd rfl (qa_cons (qv 8) (qa_cons qc_int qa_nil)))))))) (s_one (s_ret qc_bl)) s_nil) (s_one (s_if (t_ne (ru hr) (q_call c_more_rounds hr hgd rfl (qa_cons (q_call c_more_rounds hr hgd rfl (qa_cons (qv 8) (qa_cons qc_int qa_nil))) (qa_cons qc_int qa_nil))) (q_call c_more_rounds hr hgd rfl (qa_cons (qv 8) (qa_cons qc_int qa_nil)))) (s_one (s_ret qc_bl)) s_nil))))))))))) (s_one (s_ret qc_bl))))
end LAW
set_option Elab.async false
set_option linter.all false
set_option maxRecDepth 100000
set_option maxHeartbeats 1000000
/-! D1: the deck (as k73). -/
namespace LAW
open PySem PySem.Spec PyProof.Rows L2 TL
theorem Deck.new {S : Sto} {D C p : Addr} {o : MO} (d : Deck S D C) (h : S p = none) : Deck (S.set p o) D C := by
  obtain ⟨ne, cells, mix, cnt, h1, h2, h3⟩ := d
  exact ⟨ne, cells, mix, cnt, by rw [set_ne (nn h h1)]; exact h1, by rw [set_ne (nn h h2)]; exact h2, h3⟩
theorem Fr.refl {S : Sto} {D C : Addr} (d : Deck S D C) : Fr D C S S := ⟨d, fun _ _ _ _ h => h⟩
theorem Fr.trans {S S1 S2 : Sto} {D C : Addr} (a : Fr D C S S1) (b : Fr D C S1 S2) : Fr D C S S2 := ⟨b.dk, fun c o h1 h2 h => b.kp c o h1 h2 (a.kp c o h1 h2 h)⟩
theorem Fr.new {S S1 : Sto} {D C p : Addr} {o : MO} (a : Fr D C S S1) (h : S1 p = none) : Fr D C S (S1.set p o) := ⟨a.dk.new h, fun c m h1 h2 e => by
  have := a.kp c m h1 h2 e
  rw [set_ne (nn h this)]; exact this⟩
theorem Fr.ex {S S1 S2 : Sto} {D C : Addr} (a : Fr D C S S1) (b : Ex S1 S2) : Fr D C S S2 := by
  refine ⟨?_, fun c o h1 h2 h => b c o (a.kp c o h1 h2 h)⟩
  obtain ⟨ne, cells, mix, cnt, h1, h2, h3⟩ := a.dk
  exact ⟨ne, cells, mix, cnt, b _ _ h1, b _ _ h2, h3⟩
theorem Fr.none {S S' : Sto} {D C p : Addr} (a : Fr D C S S') (d : Deck S D C) (h : S' p = none) : S p = none := by
  obtain ⟨ne, cells, mix, cnt, h1, h2, h3⟩ := a.dk
  cases q : S p with
  | none => rfl
  | some o =>
    have hD : p ≠ D := fun z => by rw [z, h1] at h; cases h
    have hC : p ≠ C := fun z => by rw [z, h2] at h; cases h
    rw [a.kp p o hD hC q] at h; cases h
theorem div_128 {i j : Int} (h0 : 0 < j) (h : j < 2 ^ 128) : CDivW i j := wide_div (b := 128) h0 (by omega) (by decide) (by decide)
theorem mod_draw {m x : Int} (h : 1 ≤ m) : 0 ≤ x % m ∧ x % m < m := ⟨Int.emod_nonneg _ (by omega), Int.emod_lt_of_pos _ (by omega)⟩
theorem eqTs_nil' (ns : List Int) : eqTs (ns.map T.int) [] = ns.isEmpty := by
  cases ns with
  | nil => exact eqTs_nil
  | cons n ns => exact eqTs_cn
theorem p18 : ((10 : Int) ^ (18 : Int).toNat) = 1000000000000000000 := by decide
set_option maxHeartbeats 4000000 in
theorem vc_draw (ts : List T) (S : Sto) (Q : T → Sto → Prop) (hl : ts.length = 2) (h : spDraw ts S Q) : t_Ldraw (endT Q) (startT N_Ldraw.length ts) S := by
  obtain ⟨D, C, m, rfl, ⟨ne, cells, mix, cnt, hD, hC, h100⟩, hm, hm2, q⟩ := h
  have e : startT N_Ldraw.length [T.adr D, T.int m] = [some (T.adr D), some (T.int m), none, none] := rfl
  rw [e]
  unfold t_Ldraw
  refine seq_cut fun v1 hv1 => ?_
  try simp only [tsNx, tsSeq, tsBrk, tsCt, tsDrop, tsRet, tsRetN, tsIf, tsAsg, tgN, tgsNil, tgsCons, tgTup, tgSub, tsFor, tsWhile, tiSeq, tiRng1, tiRng2, tiZip, tb, tv, tc, tac, tan, ttup, tlst, tq, tand, tor, tnot, tife, tandV, torV, tnotV, tneg, tsl, tno, tpt, tcall, tbi, tml, tml0, tmj, tisi, tlRev, tlRng1, tdisp, tps, tlc, ttYes, bt1, btN, setsT, wipeT, endT, List.getElem?_cons_zero, List.getElem?_cons_succ, List.set_cons_zero, List.set_cons_succ]
  refine st_ixl hD rfl ?_
  refine st_add ?_
  refine st_set hD rfl rfl fun S1 u1 => ?_
  have hD1 : S1 D = some (.lst [T.adr C, T.int mix, T.int (cnt + 1)]) := u1.at_
  have hC1 := u1.get (Ne.symm ne) hC
  have f1 : Fr D C S S1 := ⟨⟨ne, cells, mix, cnt + 1, hD1, hC1, h100⟩, fun a o h1 h2 h => u1.get h1 h⟩
  rw [hv1]
  refine seq_cut fun v2 hv2 => ?_
  -- behind the choice of the cell
  have rest : ∀ (cell : Int) (cells' : List Int) (S3 : Sto), cells'.length ≤ 100 → (10 ^ 18 ≤ cell → cells'.length < 100) → S3 D = some (.lst [T.adr C, T.int mix, T.int (cnt + 1)]) → S3 C = some (.lst (cells'.map T.int)) → (∀ a o, a ≠ D → a ≠ C → S a = some o → S3 a = some o) →
      v2 (endT Q) [some (T.adr D), some (T.int m), some (T.int cell), none] S3 := by
    intro cell cells' S3 hc1 hc2 h3D h3C h3
    rw [hv2]
    try simp only [tsNx, tsSeq, tsBrk, tsCt, tsDrop, tsRet, tsRetN, tsIf, tsAsg, tgN, tgsNil, tgsCons, tgTup, tgSub, tsFor, tsWhile, tiSeq, tiRng1, tiRng2, tiZip, tb, tv, tc, tac, tan, ttup, tlst, tq, tand, tor, tnot, tife, tandV, torV, tnotV, tneg, tsl, tno, tpt, tcall, tbi, tml, tml0, tmj, tisi, tlRev, tlRng1, tdisp, tps, tlc, ttYes, bt1, btN, setsT, wipeT, endT, List.getElem?_cons_zero, List.getElem?_cons_succ, List.set_cons_zero, List.set_cons_succ]
    refine st_pow ⟨by decide, by decide, by decide⟩ ?_
    rw [p18]
    refine st_ge ?_
    by_cases hbig : (1000000000000000000 : Int) ≤ cell
    · simp only [kq, decide_eq_true hbig]
      refine st_ixl h3D rfl ?_
      refine ⟨st_isl h3C, ?_⟩
      refine st_div (div_128 (by omega) (by omega)) ?_
      refine st_app h3C (by rw [List.length_map]; exact Nat.lt_of_lt_of_le (hc2 hbig) (by decide)) fun S4 u4 => ?_
      refine st_mod (by omega) ?_
      obtain ⟨g1, g2⟩ := mod_draw (x := cell) hm
      refine q _ _ g1 g2 ⟨⟨ne, cells' ++ [cell / m], mix, cnt + 1, u4.get ne h3D, by rw [u4.at_]; simp, by rw [List.length_append]; have := hc2 hbig; simp; omega⟩, fun a o h1 h2 h => u4.get h2 (h3 a o h1 h2 h)⟩
    · simp only [kq, decide_eq_false hbig]
      refine st_mod (by omega) ?_
      refine st_ixl h3D rfl ?_
      refine st_mul (mul_l (by omega) (by omega)) ?_
      refine st_add ?_
      refine st_add ?_
      refine st_mul (mul_r (by omega) (by omega)) ?_
      refine st_mod (by omega) ?_
      generalize (cell % 2147483629 + 104729 * (cnt + 1) + 1) * 48271 = y
      have y1 := Int.emod_nonneg y (b := 2147483647) (by omega)
      have y2 := Int.emod_lt_of_pos y (b := 2147483647) (by omega)
      generalize y % 2147483647 = z at *
      refine st_mul (mul_l (by omega) (by omega)) ?_
      refine st_ixl h3D rfl ?_
      refine st_mul (mul_l (by omega) (by omega)) ?_
      refine st_add ?_
      refine st_add ?_
      refine st_mod (by omega) ?_
      generalize z * z + 69621 * (cnt + 1) + 7 = y'
      have y1' := Int.emod_nonneg y' (b := 2147483587) (by omega)
      have y2' := Int.emod_lt_of_pos y' (b := 2147483587) (by omega)
      generalize y' % 2147483587 = z' at *
      refine st_div (div_64 (by omega) (by omega)) ?_
      refine st_add ?_
      refine st_mul (mul_l (by omega) (by omega)) ?_
      refine st_mod (by omega) ?_
      refine st_div (div_64 (by omega) (by omega)) ?_
      refine st_mod (by omega) ?_
      obtain ⟨g1, g2⟩ := mod_draw (x := z' * (z' / 3 + 39373) % 2305843009213693951 / 128) hm
      exact q _ _ g1 g2 ⟨⟨ne, cells', mix, cnt + 1, h3D, h3C, hc1⟩, h3⟩
  try simp only [tsNx, tsSeq, tsBrk, tsCt, tsDrop, tsRet, tsRetN, tsIf, tsAsg, tgN, tgsNil, tgsCons, tgTup, tgSub, tsFor, tsWhile, tiSeq, tiRng1, tiRng2, tiZip, tb, tv, tc, tac, tan, ttup, tlst, tq, tand, tor, tnot, tife, tandV, torV, tnotV, tneg, tsl, tno, tpt, tcall, tbi, tml, tml0, tmj, tisi, tlRev, tlRng1, tdisp, tps, tlc, ttYes, bt1, btN, setsT, wipeT, endT, List.getElem?_cons_zero, List.getElem?_cons_succ, List.set_cons_zero, List.set_cons_succ]
  refine st_ixl hD1 rfl ?_
  refine st_nil (nw fun p S2 hp hpp x2 => ?_)
  have hD2 := x2 _ _ hD1
  have hC2 := x2 _ _ hC1
  have f2 : Fr D C S S2 := f1.ex x2
  refine st_eql hC2 hpp (purs_ints _) purs_nil (by rw [depths_nil]; simp) ?_
  rw [eqTs_nil']
  cases cells with
  | nil =>
    simp only [kq, List.isEmpty_nil, eqG]
    refine st_ixl hD2 rfl ?_
    exact rest _ [] S2 (by simp) (by simp) hD2 hC2 f2.kp
  | cons c0 cr =>
    simp only [kq, List.isEmpty_cons, eqG]
    refine st_ixl hD2 rfl ?_
    refine ⟨st_isl hC2, ?_⟩
    have hne : (c0 :: cr) ≠ [] := by simp
    refine st_pop (y := .int ((c0 :: cr).getLast hne)) hC2 ?_ fun S3 u3 => ?_
    · rw [List.getElem?_map, List.length_map, ← List.getLast?_eq_getElem?, List.getLast?_eq_some_getLast hne]; rfl
    · refine rest _ (c0 :: cr).dropLast S3 ?_ ?_ (u3.get ne hD2) (by rw [u3.at_, List.map_dropLast]) fun a o h1 h2 h => u3.get h2 (f2.kp a o h1 h2 h)
      · rw [List.length_dropLast]; omega
      · intro _; rw [List.length_dropLast]; simp at h100 ⊢; omega
end LAW
set_option Elab.async false
set_option linter.all false
set_option maxRecDepth 100000
set_option maxHeartbeats 4000000
/-! TLC2: the deck's making, a pick, names. -/
namespace LAW
open PySem PySem.Spec PyProof.Rows L2 TL
theorem atI_ok {α : Type} {xs : List α} {i : Int} (h0 : 0 ≤ i) (h : i < xs.length) : ∃ x, atI xs i = some x ∧ x ∈ xs ∧ xs[i.toNat]? = some x := by
  have hk : i.toNat < xs.length := by omega
  have e : i = ((i.toNat : Nat) : Int) := by omega
  have q : atI xs ((i.toNat : Nat) : Int) = some xs[i.toNat] := atI_nat (List.getElem?_eq_getElem hk)
  rw [← e] at q
  exact ⟨_, q, List.getElem_mem hk, List.getElem?_eq_getElem hk⟩
theorem ixN_ok {n : Nat} {i : Int} (h0 : 0 ≤ i) (h : i < n) : ixN n i = some i.toNat := by
  have := @atI_ok Nat (List.range n) i h0 (by simpa using h)
  obtain ⟨x, hx, _, hx2⟩ := this
  unfold atI at hx
  rw [List.length_range] at hx
  cases e : ixN n i with
  | none => rw [e] at hx; cases hx
  | some k =>
    rw [e] at hx
    have hx : (List.range n)[k]? = some x := hx
    obtain ⟨h1, h2⟩ := List.getElem?_eq_some_iff.mp hx
    obtain ⟨h3, h4⟩ := List.getElem?_eq_some_iff.mp hx2
    simp at h2 h4
    rw [h2, ← h4]
theorem rng_none {lo : Int} {n i : Nat} (h : (rngT lo n)[i]? = none) : n ≤ i := by
  have := List.getElem?_eq_none_iff.mp h
  rw [rngT_len] at this; exact this
theorem rng_some {lo : Int} {n i : Nat} {x : T} (h : (rngT lo n)[i]? = some x) : i < n ∧ x = .int (lo + i) := by
  have h1 := (List.getElem?_eq_some_iff.mp h).1
  rw [rngT_len] at h1
  rw [rngT_get n lo i h1] at h
  cases h
  exact ⟨h1, rfl⟩
theorem cut_ints (ns : List Int) (lo hi : Option Int) : ∃ ms : List Int, cutT (ns.map T.int) lo hi = ms.map T.int ∧ ms.length ≤ ns.length := by
  unfold cutT
  refine ⟨_, by rw [← List.map_drop, ← List.map_take], ?_⟩
  rw [List.length_take, List.length_drop]
  omega
theorem s63 (n : Nat) : HT.sIx n n (some 63) ≤ 63 := by
  unfold HT.sIx
  simp
  omega
theorem cut63 (xs : List T) : (cutT xs none (some 63)).length ≤ 63 := by
  unfold cutT
  rw [List.length_take]
  have := s63 xs.length
  omega
theorem vc_deck (ts : List T) (S : Sto) (Q : T → Sto → Prop) (hl : ts.length = 1) (h : spDeck ts S Q) : t_Ldeck (endT Q) (startT N_Ldeck.length ts) S := by
  obtain ⟨ns, b, rfl, hb, q⟩ := h
  rw [show startT N_Ldeck.length [T.adr b] = [some (T.adr b), none] from rfl]
  try simp only [t_Ldeck, tsNx, tsSeq, tsBrk, tsCt, tsDrop, tsRet, tsRetN, tsIf, tsAsg, tgN, tgsNil, tgsCons, tgTup, tgSub, tsFor, tsWhile, tiSeq, tiRng1, tiRng2, tiZip, tb, tv, tc, tac, tan, ttup, tlst, tq, tand, tor, tnot, tife, tandV, torV, tnotV, tneg, tsl, tno, tpt, tcall, tbi, tml, tml0, tmj, tisi, tlRev, tlRng1, tdisp, tps, tlc, ttYes, bt1, btN, setsT, wipeT, endT, List.getElem?_cons_zero, List.getElem?_cons_succ, List.set_cons_zero, List.set_cons_succ]
  refine st_sll hb (nw fun p S1 hp hpp x1 => ?_)
  obtain ⟨ms, e1, _⟩ := cut_ints ns none (some 63)
  have e2 : ms.length ≤ 63 := by
    have := congrArg List.length e1
    rw [List.length_map] at this
    rw [← this]
    exact cut63 _
  rw [e1] at hpp
  simp only [lstAt_of hpp]
  refine nw fun C S2 hC hCC x2 => ?_
  rw [← List.map_reverse] at hCC
  refine st_sum hCC ?_
  refine st_mod (by omega) ?_
  refine st_lenl hCC ?_
  refine st_mul (mul_l (by omega) (by omega)) ?_
  refine st_add ?_
  refine st_lst (by simp) (nw fun D S3 hD hDD x3 => ?_)
  have hne : D ≠ C := fun z => by rw [z, hCC] at hD; cases hD
  refine q D C S3 (x1.none (x2.none hD)) (x1.none hC) ⟨hne, _, _, _, hDD, x3 _ _ hCC, ?_⟩ ((x1.trans x2).trans x3)
  rw [List.length_reverse]; omega
theorem vc_pick (ts : List T) (S : Sto) (Q : T → Sto → Prop) (hl : ts.length = 2) (h : spPick ts S Q) : t_Lpick (endT Q) (startT N_Lpick.length ts) S := by
  obtain ⟨D, C, b, xs, rfl, dk, n1, n2, hb, h1, h2, q⟩ := h
  rw [show startT N_Lpick.length [T.adr D, T.adr b] = [some (T.adr D), some (T.adr b)] from rfl]
  try simp only [t_Lpick, tsNx, tsSeq, tsBrk, tsCt, tsDrop, tsRet, tsRetN, tsIf, tsAsg, tgN, tgsNil, tgsCons, tgTup, tgSub, tsFor, tsWhile, tiSeq, tiRng1, tiRng2, tiZip, tb, tv, tc, tac, tan, ttup, tlst, tq, tand, tor, tnot, tife, tandV, torV, tnotV, tneg, tsl, tno, tpt, tcall, tbi, tml, tml0, tmj, tisi, tlRev, tlRng1, tdisp, tps, tlc, ttYes, bt1, btN, setsT, wipeT, endT, List.getElem?_cons_zero, List.getElem?_cons_succ, List.set_cons_zero, List.set_cons_succ]
  refine st_lenl hb ⟨rfl, D, C, _, rfl, dk, by omega, by omega, fun v S' v1 v2 fr => ?_⟩
  obtain ⟨x, e, hx, _⟩ := atI_ok (xs := xs) v1 v2
  exact st_ixl (fr.kp _ _ n1 n2 hb) e (q x S' hx fr)
/-! texts -/
theorem letters_is : (Str.ofString "abcdefghijklmnopqrstuvwxyz").cps.toList = (List.range 26).map (· + 97) := by decide +kernel
theorem letters_at {s : Int} (h0 : 0 ≤ s) (h : s < 26) : ∃ c, atI (Str.ofString "abcdefghijklmnopqrstuvwxyz").cps.toList s = some c ∧ 97 ≤ c ∧ c ≤ 122 := by
  rw [letters_is]
  obtain ⟨x, e, hx, _⟩ := atI_ok (xs := (List.range 26).map (· + 97)) h0 (by simpa using h)
  refine ⟨x, e, ?_⟩
  simp at hx
  omega
theorem join_ones : ∀ cs : List Nat, (Txt.join (Str.ofString "") (cs.map fun c => (⟨#[c]⟩ : Str))).cps.toList = cs := by
  intro cs
  rw [join_eq]
  have key : ∀ cs : List Nat, tl (Str.join (Str.ofString "") (cs.map fun c => (⟨#[c]⟩ : Str))) = cs := by
    intro cs
    rw [tl_join]
    have hs : tl (Str.ofString "") = [] := by decide +kernel
    rw [hs]
    induction cs with
    | nil => rfl
    | cons c r ih =>
      cases r with
      | nil => rfl
      | cons d r => exact congrArg (c :: ·) ih
  exact key cs
theorem join_lower {cs : List Nat} (h1 : 1 ≤ cs.length) (h8 : cs.length ≤ 8) (hc : ∀ c ∈ cs, 97 ≤ c ∧ c ≤ 122) : lower (Txt.join (Str.ofString "") (cs.map fun c => (⟨#[c]⟩ : Str))) := by
  have e := join_ones cs
  refine ⟨?_, ?_, by rw [e]; exact hc⟩
  · show 1 ≤ Array.size _; rw [← Array.length_toList, e]; exact h1
  · show Array.size _ ≤ 8; rw [← Array.length_toList, e]; exact h8
/-- numbers of signs -/
def Word (ns : List Int) : Prop := ∀ x ∈ ns, 0 ≤ x ∧ x < 26
theorem Word.set {ns : List Int} (w : Word ns) (n : Nat) {v : Int} (h : 0 ≤ v ∧ v < 26) : Word (ns.set n v) := fun x hx => by
  rcases List.mem_or_eq_of_mem_set hx with q | q
  · exact w x q
  · rw [q]; exact h
theorem Word.snoc {ns : List Int} (w : Word ns) {v : Int} (h : 0 ≤ v ∧ v < 26) : Word (ns ++ [v]) := fun x hx => by
  rcases List.mem_append.mp hx with q | q
  · exact w x q
  · rw [List.mem_singleton.mp q]; exact h
end LAW
set_option Elab.async false
set_option linter.all false
set_option maxRecDepth 100000
set_option maxHeartbeats 4000000
/-! TLC3: names. -/
namespace LAW
open PySem PySem.Spec PyProof.Rows L2 TL
theorem p62 {m : Int} (h : m ≤ 4000) : m < 2 ^ 62 := by omega
theorem ones_sum (cs : List Nat) : ((cs.map fun c => (⟨#[c]⟩ : Str)).map (·.length)).sum = cs.length := by
  induction cs with
  | nil => rfl
  | cons c r ih =>
    rw [List.map_cons, List.map_cons, List.sum_cons, ih, List.length_cons]
    show 1 + r.length = _
    omega
theorem Word.nil : Word [] := fun x hx => by cases hx
theorem snoc_map {α β : Type} (f : α → β) (xs : List α) (x : α) : xs.map f ++ [f x] = (xs ++ [x]).map f := by simp
theorem vc_names (ts : List T) (S : Sto) (Q : T → Sto → Prop) (hl : ts.length = 2) (h : spNames ts S Q) : t_Lnames (endT Q) (startT N_Lnames.length ts) S := by
  obtain ⟨D, C, m, rfl, dk, hm1, hm4, q⟩ := h
  rw [show startT N_Lnames.length [T.adr D, T.int m] = [some (T.adr D), some (T.int m), none, none, none, none, none, none] from rfl]
  unfold t_Lnames
  refine seq_cut fun v1 hv1 => ?_
  try simp only [tsNx, tsSeq, tsBrk, tsCt, tsDrop, tsRet, tsRetN, tsIf, tsAsg, tgN, tgsNil, tgsCons, tgTup, tgSub, tsFor, tsWhile, tiSeq, tiRng1, tiRng2, tiZip, tb, tv, tc, tac, tan, ttup, tlst, tq, tand, tor, tnot, tife, tandV, torV, tnotV, tneg, tsl, tno, tpt, tcall, tbi, tml, tml0, tmj, tisi, tlRev, tlRng1, tdisp, tps, tlc, ttYes, bt1, btN, setsT, wipeT, endT, List.getElem?_cons_zero, List.getElem?_cons_succ, List.set_cons_zero, List.set_cons_succ]
  rw [hv1]
  refine seq_cut fun v2 hv2 => ?_
  try simp only [tsNx, tsSeq, tsBrk, tsCt, tsDrop, tsRet, tsRetN, tsIf, tsAsg, tgN, tgsNil, tgsCons, tgTup, tgSub, tsFor, tsWhile, tiSeq, tiRng1, tiRng2, tiZip, tb, tv, tc, tac, tan, ttup, tlst, tq, tand, tor, tnot, tife, tandV, torV, tnotV, tneg, tsl, tno, tpt, tcall, tbi, tml, tml0, tmj, tisi, tlRev, tlRng1, tdisp, tps, tlc, ttYes, bt1, btN, setsT, wipeT, endT, List.getElem?_cons_zero, List.getElem?_cons_succ, List.set_cons_zero, List.set_cons_succ]
  refine ⟨rfl, D, C, 8, rfl, dk, by omega, by omega, fun n S1 n0 n8 f1 => ?_⟩
  refine st_add ?_
  simp only []
  refine ⟨by omega, by omega, fun L hL => ⟨fun i acc S' => i ≤ (1 + n).toNat ∧ ∃ ns : List Int, acc = ns.map T.int ∧ ns.length = i ∧ Word ns ∧ S' L = some (.lst acc) ∧ Fr D C S S' ∧ S L = none, fun S0 u => ?_, ?_⟩⟩
  · exact ⟨Nat.zero_le _, [], rfl, rfl, Word.nil, u.at_, f1.ex fun a o e => u.get (nn hL e) e, f1.none dk hL⟩
  · rintro i acc S' ⟨hi, ns, rfl, hn, hw, hS, fr, hLS⟩
    have hLD : L ≠ D := fun z => by obtain ⟨_, _, _, _, h1, _⟩ := dk; rw [z, h1] at hLS; cases hLS
    have hLC : L ≠ C := fun z => by obtain ⟨_, _, _, _, _, h1, _⟩ := dk; rw [z, h1] at hLS; cases hLS
    refine ⟨hS, trivial, ?_⟩
    cases hx : (rngT 0 (1 + n).toNat)[i]? with
    | some x =>
      obtain ⟨h1, rfl⟩ := rng_some hx
      simp only []
      refine ⟨rfl, D, C, 26, rfl, fr.dk, by omega, by omega, fun v S2 v0 v1' f2 => ?_⟩
      refine ⟨f2.kp _ _ hLD hLC hS, by rw [List.length_map]; exact Nat.lt_of_lt_of_le (show ns.length < 100 by omega) (by decide), fun S5 u => ⟨h1, ns ++ [v], snoc_map _ _ _, by simp [hn], hw.snoc ⟨v0, v1'⟩, u.at_, ?_, hLS⟩⟩
      have f3 := fr.trans f2
      refine ⟨?_, fun a o h1 h2 h => u.get (fun z => by rw [z, hLS] at h; cases h) (f3.kp a o h1 h2 h)⟩
      obtain ⟨ne, a1, a2, a3, a4, a5, a6⟩ := f3.dk
      exact ⟨ne, a1, a2, a3, u.get (Ne.symm hLD) a4, u.get (Ne.symm hLC) a5, a6⟩
    | none =>
      have hin := rng_none hx
      have hi : i = (1 + n).toNat := by omega
      simp only []
      rw [hv2]
      refine seq_cut fun v3 hv3 => ?_
      try simp only [tsNx, tsSeq, tsBrk, tsCt, tsDrop, tsRet, tsRetN, tsIf, tsAsg, tgN, tgsNil, tgsCons, tgTup, tgSub, tsFor, tsWhile, tiSeq, tiRng1, tiRng2, tiZip, tb, tv, tc, tac, tan, ttup, tlst, tq, tand, tor, tnot, tife, tandV, torV, tnotV, tneg, tsl, tno, tpt, tcall, tbi, tml, tml0, tmj, tisi, tlRev, tlRng1, tdisp, tps, tlc, ttYes, bt1, btN, setsT, wipeT, endT, List.getElem?_cons_zero, List.getElem?_cons_succ, List.set_cons_zero, List.set_cons_succ]
      refine st_lenl hS ⟨rfl, D, C, _, rfl, fr.dk, by rw [List.length_map]; omega, by rw [List.length_map]; omega, fun at_ S2 w0 w1 f2 => ?_⟩
      rw [List.length_map] at w1
      have hS2 := f2.kp _ _ hLD hLC hS
      have f3 := fr.trans f2
      clear f2 hS hx
      rw [hv3]
      refine seq_cut fun v4 hv4 => ?_
      try simp only [tsNx, tsSeq, tsBrk, tsCt, tsDrop, tsRet, tsRetN, tsIf, tsAsg, tgN, tgsNil, tgsCons, tgTup, tgSub, tsFor, tsWhile, tiSeq, tiRng1, tiRng2, tiZip, tb, tv, tc, tac, tan, ttup, tlst, tq, tand, tor, tnot, tife, tandV, torV, tnotV, tneg, tsl, tno, tpt, tcall, tbi, tml, tml0, tmj, tisi, tlRev, tlRng1, tdisp, tps, tlc, ttYes, bt1, btN, setsT, wipeT, endT, List.getElem?_cons_zero, List.getElem?_cons_succ, List.set_cons_zero, List.set_cons_succ]
      refine st_nil (nw fun F S3 hF hFF x3 => ?_)
      rw [hv4]
      refine seq_cut fun v5 hv5 => ?_
      try simp only [tsNx, tsSeq, tsBrk, tsCt, tsDrop, tsRet, tsRetN, tsIf, tsAsg, tgN, tgsNil, tgsCons, tgTup, tgSub, tsFor, tsWhile, tiSeq, tiRng1, tiRng2, tiZip, tb, tv, tc, tac, tan, ttup, tlst, tq, tand, tor, tnot, tife, tandV, torV, tnotV, tneg, tsl, tno, tpt, tcall, tbi, tml, tml0, tmj, tisi, tlRev, tlRng1, tdisp, tps, tlc, ttYes, bt1, btN, setsT, wipeT, endT, List.getElem?_cons_zero, List.getElem?_cons_succ, List.set_cons_zero, List.set_cons_succ]
      have hFS : S F = none := f3.none dk hF
      have hFL : F ≠ L := fun z => by rw [z, hS2] at hF; cases hF
      have hFD : F ≠ D := fun z => by obtain ⟨_, _, _, _, h1, _⟩ := dk; rw [z, h1] at hFS; cases hFS
      have hFC : F ≠ C := fun z => by obtain ⟨_, _, _, _, _, h1, _⟩ := dk; rw [z, h1] at hFS; cases hFS
      refine ⟨by omega, by omega, ⟨fun i ρ' S' => i ≤ m.toNat ∧ (∃ k6, ρ' = [some (T.adr D), some (T.int m), some (T.str (Str.ofString "abcdefghijklmnopqrstuvwxyz")), some (T.adr L), some (T.int at_), some (T.adr F), k6, none]) ∧
        ∃ (ns' : List Int) (fs : List Str), ns'.length = ns.length ∧ Word ns' ∧ S' L = some (.lst (ns'.map T.int)) ∧ S' F = some (.lst (fs.map T.str)) ∧ fs.length = i ∧ (∀ x ∈ fs, lower x) ∧ Fr D C S S', ?_, ?_⟩⟩
      · exact ⟨Nat.zero_le _, ⟨none, rfl⟩, ns, [], rfl, hw, x3 _ _ hS2, hFF, rfl, (by intro x hx; cases hx), f3.ex x3⟩
      · rintro j ρ' S' ⟨hj, ⟨k6, rfl⟩, ns', fs, g1, g2, g3, g4, g5, g6, g7⟩
        refine ⟨trivial, ?_⟩
        cases hx : (rngT 0 m.toNat)[j]? with
        | none =>
          have := rng_none hx
          simp only []
          rw [hv5]
          try simp only [tsNx, tsSeq, tsBrk, tsCt, tsDrop, tsRet, tsRetN, tsIf, tsAsg, tgN, tgsNil, tgsCons, tgTup, tgSub, tsFor, tsWhile, tiSeq, tiRng1, tiRng2, tiZip, tb, tv, tc, tac, tan, ttup, tlst, tq, tand, tor, tnot, tife, tandV, torV, tnotV, tneg, tsl, tno, tpt, tcall, tbi, tml, tml0, tmj, tisi, tlRev, tlRng1, tdisp, tps, tlc, ttYes, bt1, btN, setsT, wipeT, endT, List.getElem?_cons_zero, List.getElem?_cons_succ, List.set_cons_zero, List.set_cons_succ]
          exact q F fs S' (by omega) g6 g7 hFS g4
        | some x =>
          obtain ⟨j1, rfl⟩ := rng_some hx
          try simp only [tsNx, tsSeq, tsBrk, tsCt, tsDrop, tsRet, tsRetN, tsIf, tsAsg, tgN, tgsNil, tgsCons, tgTup, tgSub, tsFor, tsWhile, tiSeq, tiRng1, tiRng2, tiZip, tb, tv, tc, tac, tan, ttup, tlst, tq, tand, tor, tnot, tife, tandV, torV, tnotV, tneg, tsl, tno, tpt, tcall, tbi, tml, tml0, tmj, tisi, tlRev, tlRng1, tdisp, tps, tlc, ttYes, bt1, btN, setsT, wipeT, endT, List.getElem?_cons_zero, List.getElem?_cons_succ, List.set_cons_zero, List.set_cons_succ]
          obtain ⟨y, ey, hy, hy2⟩ := atI_ok (xs := ns'.map T.int) w0 (by rw [List.length_map, g1]; exact w1)
          obtain ⟨y', hy', rfl⟩ := List.mem_map.mp hy
          refine st_ixl g3 ey ?_
          refine st_add ?_
          refine st_mod (by omega) ?_
          have em := Int.emod_nonneg (y' + 1) (b := 26) (by omega)
          have em2 := Int.emod_lt_of_pos (y' + 1) (b := 26) (by omega)
          refine st_set g3 (ixN_ok w0 (by rw [List.length_map, g1]; exact w1)) (List.map_set (f := T.int)).symm fun S4 u4 => ?_
          have g4' := u4.get hFL g4
          refine ⟨st_isl g4', trivial, ?_⟩
          try simp only [lstAt_of u4.at_, tsNx, tsSeq, tsBrk, tsCt, tsDrop, tsRet, tsRetN, tsIf, tsAsg, tgN, tgsNil, tgsCons, tgTup, tgSub, tsFor, tsWhile, tiSeq, tiRng1, tiRng2, tiZip, tb, tv, tc, tac, tan, ttup, tlst, tq, tand, tor, tnot, tife, tandV, torV, tnotV, tneg, tsl, tno, tpt, tcall, tbi, tml, tml0, tmj, tisi, tlRev, tlRng1, tdisp, tps, tlc, ttYes, bt1, btN, setsT, wipeT, endT, List.getElem?_cons_zero, List.getElem?_cons_succ, List.set_cons_zero, List.set_cons_succ]
          intro J hJ
          have hJL : J ≠ L := fun z => by rw [z, u4.at_] at hJ; cases hJ
          have hJF : J ≠ F := fun z => by rw [z, g4'] at hJ; cases hJ
          have fr4 : Fr D C S S4 := by
            refine ⟨?_, fun a o h1 h2 h => u4.get (fun z => by rw [z, hLS] at h; cases h) (g7.kp a o h1 h2 h)⟩
            obtain ⟨ne, a1, a2, a3, a4, a5, a6⟩ := g7.dk
            exact ⟨ne, a1, a2, a3, u4.get (Ne.symm hLD) a4, u4.get (Ne.symm hLC) a5, a6⟩
          have hJS : S J = none := fr4.none dk hJ
          have gW : Word (ns'.set at_.toNat ((y' + 1) % 26)) := g2.set _ ⟨em, em2⟩
          have gl : (ns'.set at_.toNat ((y' + 1) % 26)).length = ns.length := by rw [List.length_set, g1]
          generalize hnn : ns'.set at_.toNat ((y' + 1) % 26) = nz at *
          refine ⟨fun i acc S' => i ≤ nz.length ∧ ∃ cs : List Nat, acc = cs.map (fun c => T.str ⟨#[c]⟩) ∧ cs.length = i ∧ (∀ c ∈ cs, 97 ≤ c ∧ c ≤ 122) ∧ S' J = some (.lst acc) ∧ S' L = some (.lst (nz.map T.int)) ∧ S' F = some (.lst (fs.map T.str)) ∧ Fr D C S S', fun S0 u => ?_, ?_⟩
          · exact ⟨Nat.zero_le _, [], rfl, rfl, (by intro c hc; cases hc), u.at_, u.get (Ne.symm hJL) u4.at_, u.get (Ne.symm hJF) g4', fr4.ex fun a o e => u.get (nn hJ e) e⟩
          · rintro i acc S6 ⟨hi6, cs, rfl, c1, c2, c3, c4, c5, c6⟩
            refine ⟨c3, lstAt_of c4, ?_⟩
            cases hx : (nz.map T.int)[i]? with
            | none =>
              have hlen := List.getElem?_eq_none_iff.mp hx
              rw [List.length_map] at hlen
              simp only [oJoin, lstAt_of c3, Option.bind_some]
              have es : (cs.map fun c => T.str ⟨#[c]⟩) = (cs.map fun c => (⟨#[c]⟩ : Str)).map T.str := by rw [List.map_map]; rfl
              rw [es, strsT_map]
              simp only []
              have hcs : cs.length ≤ 8 := by omega
              refine ⟨?_, ?_⟩
              · have e1 := ones_sum cs
                have e2 : (Str.ofString "").length = 0 := by decide +kernel
                rw [e1, e2]; omega
              · refine st_app c5 (by rw [List.length_map]; exact Nat.lt_of_lt_of_le (show fs.length < 100 by omega) (by decide)) fun S7 u7 => ?_
                have hlo : lower (Txt.join (Str.ofString "") (cs.map fun c => (⟨#[c]⟩ : Str))) := join_lower (by omega) hcs c2
                refine ⟨by omega, ⟨_, rfl⟩, nz, fs ++ [Txt.join (Str.ofString "") (cs.map fun c => (⟨#[c]⟩ : Str))], gl, gW, u7.get (Ne.symm hFL) c4, ?_, by simp [g5], ?_, ?_⟩
                · rw [u7.at_, snoc_map]
                · intro x hx
                  rcases List.mem_append.mp hx with z | z
                  · exact g6 x z
                  · rw [List.mem_singleton.mp z]; exact hlo
                · refine ⟨?_, fun a o h1 h2 h => u7.get (fun z => by rw [z, hFS] at h; cases h) (c6.kp a o h1 h2 h)⟩
                  obtain ⟨ne, a1, a2, a3, a4, a5, a6⟩ := c6.dk
                  exact ⟨ne, a1, a2, a3, u7.get (Ne.symm hFD) a4, u7.get (Ne.symm hFC) a5, a6⟩
            | some x =>
              obtain ⟨k1, k2⟩ := List.getElem?_eq_some_iff.mp hx
              rw [List.length_map] at k1
              have hz : x = .int nz[i] := by rw [← k2]; simp
              subst hz
              obtain ⟨w0', w1'⟩ := gW nz[i] (List.getElem_mem _)
              obtain ⟨c, ec, hc1, hc2⟩ := letters_at w0' w1'
              simp only [List.set_cons_zero, List.set_cons_succ, List.getElem?_cons_zero, List.getElem?_cons_succ]
              refine st_ixs (by decide +kernel) ec ?_
              refine ⟨c3, by rw [List.length_map]; exact Nat.lt_of_lt_of_le (show cs.length < 100 by omega) (by decide), fun S8 u8 => ⟨k1, cs ++ [c], by simp, by simp [c1], ?_, u8.at_, u8.get (Ne.symm hJL) c4, u8.get (Ne.symm hJF) c5, ?_⟩⟩
              · intro y hy
                rcases List.mem_append.mp hy with z | z
                · exact c2 y z
                · rw [List.mem_singleton.mp z]; exact ⟨hc1, hc2⟩
              · refine ⟨?_, fun a o h1 h2 h => u8.get (fun z => by rw [z, hJS] at h; cases h) (c6.kp a o h1 h2 h)⟩
                obtain ⟨ne, a1, a2, a3, a4, a5, a6⟩ := c6.dk
                have hJD : J ≠ D := fun z => by obtain ⟨_, _, _, _, h1, _⟩ := dk; rw [z, h1] at hJS; cases hJS
                have hJC : J ≠ C := fun z => by obtain ⟨_, _, _, _, _, h1, _⟩ := dk; rw [z, h1] at hJS; cases hJS
                exact ⟨ne, a1, a2, a3, u8.get (Ne.symm hJD) a4, u8.get (Ne.symm hJC) a5, a6⟩
end LAW
set_option Elab.async false
set_option linter.all false
set_option maxRecDepth 100000
set_option maxHeartbeats 1000000
/-! TLe: evaluation by equations (printed in part by a program). -/
namespace LAW
open PySem PySem.Spec PyProof.Rows L2 TL
section
variable {S : Sto} {Q : T → Sto → Prop} {x y z : T} {xs ys : List T} {a b : Str} {i j : Int} {neg : Bool}
theorem eqG_f' {b : Bool} : eqG false b = b := rfl
theorem ev_t0 : oIx (.tup (x :: xs)) (.int 0) S Q = Q x S := by
  have h : atI (x :: xs) ((0 : Nat) : Int) = some x := atI_nat (by rfl)
  have h : atI (x :: xs) 0 = some x := h
  show (match atI (x :: xs) 0 with | some v => Q v S | none => False) = _
  rw [h]
theorem ev_t1 : oIx (.tup (x :: y :: xs)) (.int 1) S Q = Q y S := by
  have h : atI (x :: y :: xs) ((1 : Nat) : Int) = some y := atI_nat (by rfl)
  have h : atI (x :: y :: xs) 1 = some y := h
  show (match atI (x :: y :: xs) 1 with | some v => Q v S | none => False) = _
  rw [h]
theorem ev_t2 : oIx (.tup (x :: y :: z :: xs)) (.int 2) S Q = Q z S := by
  have h : atI (x :: y :: z :: xs) ((2 : Nat) : Int) = some z := atI_nat (by rfl)
  have h : atI (x :: y :: z :: xs) 2 = some z := h
  show (match atI (x :: y :: z :: xs) 2 with | some v => Q v S | none => False) = _
  rw [h]
theorem ev_in2 {c : Str} : oInG false (.str a) (.tup [.str b, .str c]) S Q = Q (.bl ((b == a) || (c == a))) S := by
  unfold oInG
  simp only [pur_str, purs_cons, purs_nil, depths_cons, depths_nil, depth_str, eqG_f', List.any_cons, List.any_nil, eqT_str, Bool.or_false, Bool.and_true]
  simp
theorem ev_lent : oLen [.tup xs] S Q = Q (.int xs.length) S := rfl
theorem ev_isn {x : T} : oIsG false x .non S Q = Q (.bl (match x with | .non => true | _ => false)) S := rfl
theorem at2_0 : atI [x, y] 0 = some x := by have h : atI [x, y] ((0 : Nat) : Int) = some x := atI_nat (by rfl); exact h
theorem at2_1 : atI [x, y] 1 = some y := by have h : atI [x, y] ((1 : Nat) : Int) = some y := atI_nat (by rfl); exact h
theorem ev_eqs : oEqG neg (.str a) (.str b) S Q = Q (.bl (eqG neg (a == b))) S := by
  unfold oEqG; simp only [pur_str, depth_str, eqT_str, Nat.min_self, Nat.zero_le, true_and]
theorem ev_eqi : oEqG neg (.int i) (.int j) S Q = Q (.bl (eqG neg (i == j))) S := by
  unfold oEqG; simp only [pur_int, depth_int, eqT_int, Nat.min_self, Nat.zero_le, true_and]
theorem ev_intb {b : Bool} : oInt [.bl b] S Q = Q (.int (if b then 1 else 0)) S := rfl
theorem ev_inti : oInt [.int i] S Q = Q (.int i) S := rfl
theorem ev_add : oAdd (.int i) (.int j) S Q = Q (.int (i + j)) S := rfl
theorem ev_sub : oSub (.int i) (.int j) S Q = Q (.int (i - j)) S := rfl
theorem ev_lt : oLt (.int i) (.int j) S Q = Q (.bl (decide (i < j))) S := rfl
theorem ev_gt : oGt (.int i) (.int j) S Q = Q (.bl (decide (j < i))) S := rfl
theorem ev_sl1 : oSl (.tup (x :: xs)) (some 1) none S Q = Q (.tup xs) S := by
  show Q (.tup (cutT (x :: xs) (some 1) none)) S = _
  have h1 : HT.sIx (x :: xs).length 0 (some 1) = 1 := by unfold HT.sIx; simp
  have h2 : HT.sIx (x :: xs).length (x :: xs).length none = xs.length + 1 := by unfold HT.sIx; simp
  unfold cutT
  rw [h1, h2]
  simp
theorem eqG_f {b : Bool} : eqG false b = b := rfl
theorem eqG_t {b : Bool} : eqG true b = !b := rfl
end
theorem s_num_truth : ((Str.ofString "num") == (Str.ofString "truth")) = false := by decide +kernel
theorem s_num_open : ((Str.ofString "num") == (Str.ofString "open")) = false := by decide +kernel
theorem s_num_list : ((Str.ofString "num") == (Str.ofString "list")) = false := by decide +kernel
theorem s_num_pair : ((Str.ofString "num") == (Str.ofString "pair")) = false := by decide +kernel
theorem s_num_either : ((Str.ofString "num") == (Str.ofString "either")) = false := by decide +kernel
theorem s_num_left : ((Str.ofString "num") == (Str.ofString "left")) = false := by decide +kernel
theorem s_num_right : ((Str.ofString "num") == (Str.ofString "right")) = false := by decide +kernel
theorem s_num_thing : ((Str.ofString "num") == (Str.ofString "thing")) = false := by decide +kernel
theorem s_num_fault : ((Str.ofString "num") == (Str.ofString "fault")) = false := by decide +kernel
theorem s_num_worth : ((Str.ofString "num") == (Str.ofString "worth")) = false := by decide +kernel
theorem s_num_table : ((Str.ofString "num") == (Str.ofString "table")) = false := by decide +kernel
theorem s_num_num : ((Str.ofString "num") == (Str.ofString "num")) = true := by decide +kernel
theorem s_truth_num : ((Str.ofString "truth") == (Str.ofString "num")) = false := by decide +kernel
theorem s_truth_open : ((Str.ofString "truth") == (Str.ofString "open")) = false := by decide +kernel
theorem s_truth_list : ((Str.ofString "truth") == (Str.ofString "list")) = false := by decide +kernel
theorem s_truth_pair : ((Str.ofString "truth") == (Str.ofString "pair")) = false := by decide +kernel
theorem s_truth_either : ((Str.ofString "truth") == (Str.ofString "either")) = false := by decide +kernel
theorem s_truth_left : ((Str.ofString "truth") == (Str.ofString "left")) = false := by decide +kernel
theorem s_truth_right : ((Str.ofString "truth") == (Str.ofString "right")) = false := by decide +kernel
theorem s_truth_thing : ((Str.ofString "truth") == (Str.ofString "thing")) = false := by decide +kernel
theorem s_truth_fault : ((Str.ofString "truth") == (Str.ofString "fault")) = false := by decide +kernel
theorem s_truth_worth : ((Str.ofString "truth") == (Str.ofString "worth")) = false := by decide +kernel
theorem s_truth_table : ((Str.ofString "truth") == (Str.ofString "table")) = false := by decide +kernel
theorem s_truth_truth : ((Str.ofString "truth") == (Str.ofString "truth")) = true := by decide +kernel
theorem s_open_num : ((Str.ofString "open") == (Str.ofString "num")) = false := by decide +kernel
theorem s_open_truth : ((Str.ofString "open") == (Str.ofString "truth")) = false := by decide +kernel
theorem s_open_list : ((Str.ofString "open") == (Str.ofString "list")) = false := by decide +kernel
theorem s_open_pair : ((Str.ofString "open") == (Str.ofString "pair")) = false := by decide +kernel
theorem s_open_either : ((Str.ofString "open") == (Str.ofString "either")) = false := by decide +kernel
theorem s_open_left : ((Str.ofString "open") == (Str.ofString "left")) = false := by decide +kernel
theorem s_open_right : ((Str.ofString "open") == (Str.ofString "right")) = false := by decide +kernel
theorem s_open_thing : ((Str.ofString "open") == (Str.ofString "thing")) = false := by decide +kernel
theorem s_open_fault : ((Str.ofString "open") == (Str.ofString "fault")) = false := by decide +kernel
theorem s_open_worth : ((Str.ofString "open") == (Str.ofString "worth")) = false := by decide +kernel
theorem s_open_table : ((Str.ofString "open") == (Str.ofString "table")) = false := by decide +kernel
theorem s_open_open : ((Str.ofString "open") == (Str.ofString "open")) = true := by decide +kernel
theorem s_list_num : ((Str.ofString "list") == (Str.ofString "num")) = false := by decide +kernel
theorem s_list_truth : ((Str.ofString "list") == (Str.ofString "truth")) = false := by decide +kernel
theorem s_list_open : ((Str.ofString "list") == (Str.ofString "open")) = false := by decide +kernel
theorem s_list_pair : ((Str.ofString "list") == (Str.ofString "pair")) = false := by decide +kernel
theorem s_list_either : ((Str.ofString "list") == (Str.ofString "either")) = false := by decide +kernel
theorem s_list_left : ((Str.ofString "list") == (Str.ofString "left")) = false := by decide +kernel
theorem s_list_right : ((Str.ofString "list") == (Str.ofString "right")) = false := by decide +kernel
theorem s_list_thing : ((Str.ofString "list") == (Str.ofString "thing")) = false := by decide +kernel
theorem s_list_fault : ((Str.ofString "list") == (Str.ofString "fault")) = false := by decide +kernel
theorem s_list_worth : ((Str.ofString "list") == (Str.ofString "worth")) = false := by decide +kernel
theorem s_list_table : ((Str.ofString "list") == (Str.ofString "table")) = false := by decide +kernel
theorem s_list_list : ((Str.ofString "list") == (Str.ofString "list")) = true := by decide +kernel
theorem s_pair_num : ((Str.ofString "pair") == (Str.ofString "num")) = false := by decide +kernel
theorem s_pair_truth : ((Str.ofString "pair") == (Str.ofString "truth")) = false := by decide +kernel
theorem s_pair_open : ((Str.ofString "pair") == (Str.ofString "open")) = false := by decide +kernel
theorem s_pair_list : ((Str.ofString "pair") == (Str.ofString "list")) = false := by decide +kernel
theorem s_pair_either : ((Str.ofString "pair") == (Str.ofString "either")) = false := by decide +kernel
theorem s_pair_left : ((Str.ofString "pair") == (Str.ofString "left")) = false := by decide +kernel
theorem s_pair_right : ((Str.ofString "pair") == (Str.ofString "right")) = false := by decide +kernel
theorem s_pair_thing : ((Str.ofString "pair") == (Str.ofString "thing")) = false := by decide +kernel
theorem s_pair_fault : ((Str.ofString "pair") == (Str.ofString "fault")) = false := by decide +kernel
theorem s_pair_worth : ((Str.ofString "pair") == (Str.ofString "worth")) = false := by decide +kernel
theorem s_pair_table : ((Str.ofString "pair") == (Str.ofString "table")) = false := by decide +kernel
theorem s_pair_pair : ((Str.ofString "pair") == (Str.ofString "pair")) = true := by decide +kernel
theorem s_either_num : ((Str.ofString "either") == (Str.ofString "num")) = false := by decide +kernel
theorem s_either_truth : ((Str.ofString "either") == (Str.ofString "truth")) = false := by decide +kernel
theorem s_either_open : ((Str.ofString "either") == (Str.ofString "open")) = false := by decide +kernel
theorem s_either_list : ((Str.ofString "either") == (Str.ofString "list")) = false := by decide +kernel
theorem s_either_pair : ((Str.ofString "either") == (Str.ofString "pair")) = false := by decide +kernel
theorem s_either_left : ((Str.ofString "either") == (Str.ofString "left")) = false := by decide +kernel
theorem s_either_right : ((Str.ofString "either") == (Str.ofString "right")) = false := by decide +kernel
theorem s_either_thing : ((Str.ofString "either") == (Str.ofString "thing")) = false := by decide +kernel
theorem s_either_fault : ((Str.ofString "either") == (Str.ofString "fault")) = false := by decide +kernel
theorem s_either_worth : ((Str.ofString "either") == (Str.ofString "worth")) = false := by decide +kernel
theorem s_either_table : ((Str.ofString "either") == (Str.ofString "table")) = false := by decide +kernel
theorem s_either_either : ((Str.ofString "either") == (Str.ofString "either")) = true := by decide +kernel
theorem s_left_num : ((Str.ofString "left") == (Str.ofString "num")) = false := by decide +kernel
theorem s_left_truth : ((Str.ofString "left") == (Str.ofString "truth")) = false := by decide +kernel
theorem s_left_open : ((Str.ofString "left") == (Str.ofString "open")) = false := by decide +kernel
theorem s_left_list : ((Str.ofString "left") == (Str.ofString "list")) = false := by decide +kernel
theorem s_left_pair : ((Str.ofString "left") == (Str.ofString "pair")) = false := by decide +kernel
theorem s_left_either : ((Str.ofString "left") == (Str.ofString "either")) = false := by decide +kernel
theorem s_left_right : ((Str.ofString "left") == (Str.ofString "right")) = false := by decide +kernel
theorem s_left_thing : ((Str.ofString "left") == (Str.ofString "thing")) = false := by decide +kernel
theorem s_left_fault : ((Str.ofString "left") == (Str.ofString "fault")) = false := by decide +kernel
theorem s_left_worth : ((Str.ofString "left") == (Str.ofString "worth")) = false := by decide +kernel
theorem s_left_table : ((Str.ofString "left") == (Str.ofString "table")) = false := by decide +kernel
theorem s_left_left : ((Str.ofString "left") == (Str.ofString "left")) = true := by decide +kernel
theorem s_right_num : ((Str.ofString "right") == (Str.ofString "num")) = false := by decide +kernel
theorem s_right_truth : ((Str.ofString "right") == (Str.ofString "truth")) = false := by decide +kernel
theorem s_right_open : ((Str.ofString "right") == (Str.ofString "open")) = false := by decide +kernel
theorem s_right_list : ((Str.ofString "right") == (Str.ofString "list")) = false := by decide +kernel
theorem s_right_pair : ((Str.ofString "right") == (Str.ofString "pair")) = false := by decide +kernel
theorem s_right_either : ((Str.ofString "right") == (Str.ofString "either")) = false := by decide +kernel
theorem s_right_left : ((Str.ofString "right") == (Str.ofString "left")) = false := by decide +kernel
theorem s_right_thing : ((Str.ofString "right") == (Str.ofString "thing")) = false := by decide +kernel
theorem s_right_fault : ((Str.ofString "right") == (Str.ofString "fault")) = false := by decide +kernel
theorem s_right_worth : ((Str.ofString "right") == (Str.ofString "worth")) = false := by decide +kernel
theorem s_right_table : ((Str.ofString "right") == (Str.ofString "table")) = false := by decide +kernel
theorem s_right_right : ((Str.ofString "right") == (Str.ofString "right")) = true := by decide +kernel
theorem s_thing_num : ((Str.ofString "thing") == (Str.ofString "num")) = false := by decide +kernel
theorem s_thing_truth : ((Str.ofString "thing") == (Str.ofString "truth")) = false := by decide +kernel
theorem s_thing_open : ((Str.ofString "thing") == (Str.ofString "open")) = false := by decide +kernel
theorem s_thing_list : ((Str.ofString "thing") == (Str.ofString "list")) = false := by decide +kernel
theorem s_thing_pair : ((Str.ofString "thing") == (Str.ofString "pair")) = false := by decide +kernel
theorem s_thing_either : ((Str.ofString "thing") == (Str.ofString "either")) = false := by decide +kernel
theorem s_thing_left : ((Str.ofString "thing") == (Str.ofString "left")) = false := by decide +kernel
theorem s_thing_right : ((Str.ofString "thing") == (Str.ofString "right")) = false := by decide +kernel
theorem s_thing_fault : ((Str.ofString "thing") == (Str.ofString "fault")) = false := by decide +kernel
theorem s_thing_worth : ((Str.ofString "thing") == (Str.ofString "worth")) = false := by decide +kernel
theorem s_thing_table : ((Str.ofString "thing") == (Str.ofString "table")) = false := by decide +kernel
theorem s_thing_thing : ((Str.ofString "thing") == (Str.ofString "thing")) = true := by decide +kernel
theorem s_fault_num : ((Str.ofString "fault") == (Str.ofString "num")) = false := by decide +kernel
theorem s_fault_truth : ((Str.ofString "fault") == (Str.ofString "truth")) = false := by decide +kernel
theorem s_fault_open : ((Str.ofString "fault") == (Str.ofString "open")) = false := by decide +kernel
theorem s_fault_list : ((Str.ofString "fault") == (Str.ofString "list")) = false := by decide +kernel
theorem s_fault_pair : ((Str.ofString "fault") == (Str.ofString "pair")) = false := by decide +kernel
theorem s_fault_either : ((Str.ofString "fault") == (Str.ofString "either")) = false := by decide +kernel
theorem s_fault_left : ((Str.ofString "fault") == (Str.ofString "left")) = false := by decide +kernel
theorem s_fault_right : ((Str.ofString "fault") == (Str.ofString "right")) = false := by decide +kernel
theorem s_fault_thing : ((Str.ofString "fault") == (Str.ofString "thing")) = false := by decide +kernel
theorem s_fault_worth : ((Str.ofString "fault") == (Str.ofString "worth")) = false := by decide +kernel
theorem s_fault_table : ((Str.ofString "fault") == (Str.ofString "table")) = false := by decide +kernel
theorem s_fault_fault : ((Str.ofString "fault") == (Str.ofString "fault")) = true := by decide +kernel
theorem s_worth_num : ((Str.ofString "worth") == (Str.ofString "num")) = false := by decide +kernel
theorem s_worth_truth : ((Str.ofString "worth") == (Str.ofString "truth")) = false := by decide +kernel
theorem s_worth_open : ((Str.ofString "worth") == (Str.ofString "open")) = false := by decide +kernel
theorem s_worth_list : ((Str.ofString "worth") == (Str.ofString "list")) = false := by decide +kernel
theorem s_worth_pair : ((Str.ofString "worth") == (Str.ofString "pair")) = false := by decide +kernel
theorem s_worth_either : ((Str.ofString "worth") == (Str.ofString "either")) = false := by decide +kernel
theorem s_worth_left : ((Str.ofString "worth") == (Str.ofString "left")) = false := by decide +kernel
theorem s_worth_right : ((Str.ofString "worth") == (Str.ofString "right")) = false := by decide +kernel
theorem s_worth_thing : ((Str.ofString "worth") == (Str.ofString "thing")) = false := by decide +kernel
theorem s_worth_fault : ((Str.ofString "worth") == (Str.ofString "fault")) = false := by decide +kernel
theorem s_worth_table : ((Str.ofString "worth") == (Str.ofString "table")) = false := by decide +kernel
theorem s_worth_worth : ((Str.ofString "worth") == (Str.ofString "worth")) = true := by decide +kernel
theorem s_table_num : ((Str.ofString "table") == (Str.ofString "num")) = false := by decide +kernel
theorem s_table_truth : ((Str.ofString "table") == (Str.ofString "truth")) = false := by decide +kernel
theorem s_table_open : ((Str.ofString "table") == (Str.ofString "open")) = false := by decide +kernel
theorem s_table_list : ((Str.ofString "table") == (Str.ofString "list")) = false := by decide +kernel
theorem s_table_pair : ((Str.ofString "table") == (Str.ofString "pair")) = false := by decide +kernel
theorem s_table_either : ((Str.ofString "table") == (Str.ofString "either")) = false := by decide +kernel
theorem s_table_left : ((Str.ofString "table") == (Str.ofString "left")) = false := by decide +kernel
theorem s_table_right : ((Str.ofString "table") == (Str.ofString "right")) = false := by decide +kernel
theorem s_table_thing : ((Str.ofString "table") == (Str.ofString "thing")) = false := by decide +kernel
theorem s_table_fault : ((Str.ofString "table") == (Str.ofString "fault")) = false := by decide +kernel
theorem s_table_worth : ((Str.ofString "table") == (Str.ofString "worth")) = false := by decide +kernel
theorem s_table_table : ((Str.ofString "table") == (Str.ofString "table")) = true := by decide +kernel
end LAW
set_option Elab.async false
set_option linter.all false
set_option maxRecDepth 100000
set_option maxHeartbeats 4000000
/-! D4: kinds are drawn. -/
namespace LAW
open PySem PySem.Spec PyProof.Rows L2 TL
theorem Deck.neS {S : Sto} {D C p : Addr} (d : Deck S D C) (h : S p = none) : p ≠ D ∧ p ≠ C := by
  obtain ⟨_, _, _, _, h1, h2, _⟩ := d
  exact ⟨fun z => (by rw [z, h1] at h; cases h), fun z => (by rw [z, h2] at h; cases h)⟩
theorem nested_or (b c : Bool) {X Y : Prop} : ((b || c) = true → X) → (b = false → c = false → Y) → (match b with | true => X | false => match c with | true => X | false => Y) := by
  intro hX hY
  cases b with
  | true => exact hX rfl
  | false =>
    cases c with
    | true => exact hX rfl
    | false => exact hY rfl rfl
theorem eqTs_strs {xs : List Str} (h : 1 ≤ xs.length) : eqTs (xs.map T.str) [] = false := by
  cases xs with
  | nil => simp at h
  | cons x r => exact eqTs_cn
theorem vc_data (n : Nat) (ts : List T) (S : Sto) (Q : T → Sto → Prop) (hl : ts.length = 4) (h : spData (n + 1) ts S Q) : t_Ldata n (endT Q) (startT N_Ldata.length ts) S := by
  obtain ⟨D, C, b, opens, d, rfl, dk, nD, nC, hb, hlo, ho1, ho8, hd0, hdn, q⟩ := h
  have p2 : 5 * 2 ^ d.toNat ≥ 5 := by have := Nat.one_le_two_pow (n := d.toNat); omega
  have pd : d ≠ 0 → 5 * 2 ^ d.toNat = 2 * (5 * 2 ^ (d - 1).toNat) := fun z => (by
    have e : d.toNat = (d - 1).toNat + 1 := by omega
    rw [e, Nat.pow_succ]; omega)
  generalize hsm : false = sm at *
  rw [show startT N_Ldata.length [T.adr D, T.adr b, T.int d, T.bl sm] = [some (T.adr D), some (T.adr b), some (T.int d), some (T.bl sm), none, none] from rfl]
  unfold t_Ldata
  refine seq_cut fun v1 hv1 => ?_
  try simp only [tsNx, tsSeq, tsBrk, tsCt, tsDrop, tsRet, tsRetN, tsIf, tsAsg, tgN, tgsNil, tgsCons, tgTup, tgSub, tsFor, tsWhile, tiSeq, tiRng1, tiRng2, tiZip, tb, tv, tc, tac, tan, ttup, tlst, tq, tand, tor, tnot, tife, tandV, torV, tnotV, tneg, tsl, tno, tpt, tcall, tbi, tml, tml0, tmj, tisi, tlRev, tlRng1, tdisp, tps, tlc, ttYes, bt1, btN, setsT, wipeT, endT, List.getElem?_cons_zero, List.getElem?_cons_succ, List.set_cons_zero, List.set_cons_succ]
  refine st_lst (by simp) (nw fun p S1 hp hpp x1 => ?_)
  try simp only [ev_t0, ev_t1, ev_t2, ev_eqs, ev_eqi, ev_intb, ev_inti, ev_add, ev_sub, ev_lt, ev_gt, ev_sl1, ev_in2, ev_lent, ev_isn, Bool.or_false, Bool.or_true, Bool.false_or, Bool.true_or, eqG_f, eqG_t, kq, Bool.not_true, Bool.not_false, if_true, if_false, ite_true, ite_false, reduceIte, s_num_num, s_num_truth, s_num_open, s_num_list, s_num_pair, s_num_either, s_num_left, s_num_right, s_num_thing, s_num_fault, s_num_worth, s_num_table, s_truth_num, s_truth_truth, s_truth_open, s_truth_list, s_truth_pair, s_truth_either, s_truth_left, s_truth_right, s_truth_thing, s_truth_fault, s_truth_worth, s_truth_table, s_open_num, s_open_truth, s_open_open, s_open_list, s_open_pair, s_open_either, s_open_left, s_open_right, s_open_thing, s_open_fault, s_open_worth, s_open_table, s_list_num, s_list_truth, s_list_open, s_list_list, s_list_pair, s_list_either, s_list_left, s_list_right, s_list_thing, s_list_fault, s_list_worth, s_list_table, s_pair_num, s_pair_truth, s_pair_open, s_pair_list, s_pair_pair, s_pair_either, s_pair_left, s_pair_right, s_pair_thing, s_pair_fault, s_pair_worth, s_pair_table, s_either_num, s_either_truth, s_either_open, s_either_list, s_either_pair, s_either_either, s_either_left, s_either_right, s_either_thing, s_either_fault, s_either_worth, s_either_table, s_left_num, s_left_truth, s_left_open, s_left_list, s_left_pair, s_left_either, s_left_left, s_left_right, s_left_thing, s_left_fault, s_left_worth, s_left_table, s_right_num, s_right_truth, s_right_open, s_right_list, s_right_pair, s_right_either, s_right_left, s_right_right, s_right_thing, s_right_fault, s_right_worth, s_right_table, s_thing_num, s_thing_truth, s_thing_open, s_thing_list, s_thing_pair, s_thing_either, s_thing_left, s_thing_right, s_thing_thing, s_thing_fault, s_thing_worth, s_thing_table, s_fault_num, s_fault_truth, s_fault_open, s_fault_list, s_fault_pair, s_fault_either, s_fault_left, s_fault_right, s_fault_thing, s_fault_fault, s_fault_worth, s_fault_table, s_worth_num, s_worth_truth, s_worth_open, s_worth_list, s_worth_pair, s_worth_either, s_worth_left, s_worth_right, s_worth_thing, s_worth_fault, s_worth_worth, s_worth_table, s_table_num, s_table_truth, s_table_open, s_table_list, s_table_pair, s_table_either, s_table_left, s_table_right, s_table_thing, s_table_fault, s_table_worth, s_table_table]
  obtain ⟨m, em, hm⟩ : ∃ m : Int, atI [T.int 10, T.int 8] (if sm = true then (1 : Int) else 0) = some (.int m) ∧ (m = 10 ∨ m = 8) := by
    cases sm with
    | true => exact ⟨8, at2_1, .inr rfl⟩
    | false => exact ⟨10, at2_0, .inl rfl⟩
  refine st_ixl hpp em ?_
  have f1 : Fr D C S S1 := (Fr.refl dk).ex x1
  refine ⟨rfl, D, C, m, rfl, f1.dk, by omega, by omega, fun way S2 w0 w1 f2' => ?_⟩
  have f2 := f1.trans f2'
  have hb2 := f2.kp _ _ nD nC hb
  clear f2' f1 hpp x1 hp em
  rw [hv1]
  refine seq_cut fun v2 hv2 => ?_
  -- behind the names
  have rest : ∀ S3, Fr D C S S3 → v2 (endT Q) [some (T.adr D), some (T.adr b), some (T.int d), some (T.bl sm), some (T.int way), none] S3 := by
    intro S3 f3
    have hb3 := f3.kp _ _ nD nC hb
    rw [hv2]
    refine seq_cut fun v3 hv3 => ?_
    try simp only [tsNx, tsSeq, tsBrk, tsCt, tsDrop, tsRet, tsRetN, tsIf, tsAsg, tgN, tgsNil, tgsCons, tgTup, tgSub, tsFor, tsWhile, tiSeq, tiRng1, tiRng2, tiZip, tb, tv, tc, tac, tan, ttup, tlst, tq, tand, tor, tnot, tife, tandV, torV, tnotV, tneg, tsl, tno, tpt, tcall, tbi, tml, tml0, tmj, tisi, tlRev, tlRng1, tdisp, tps, tlc, ttYes, bt1, btN, setsT, wipeT, endT, List.getElem?_cons_zero, List.getElem?_cons_succ, List.set_cons_zero, List.set_cons_succ]
    try simp only [ev_t0, ev_t1, ev_t2, ev_eqs, ev_eqi, ev_intb, ev_inti, ev_add, ev_sub, ev_lt, ev_gt, ev_sl1, ev_in2, ev_lent, ev_isn, Bool.or_false, Bool.or_true, Bool.false_or, Bool.true_or, eqG_f, eqG_t, kq, Bool.not_true, Bool.not_false, if_true, if_false, ite_true, ite_false, reduceIte, s_num_num, s_num_truth, s_num_open, s_num_list, s_num_pair, s_num_either, s_num_left, s_num_right, s_num_thing, s_num_fault, s_num_worth, s_num_table, s_truth_num, s_truth_truth, s_truth_open, s_truth_list, s_truth_pair, s_truth_either, s_truth_left, s_truth_right, s_truth_thing, s_truth_fault, s_truth_worth, s_truth_table, s_open_num, s_open_truth, s_open_open, s_open_list, s_open_pair, s_open_either, s_open_left, s_open_right, s_open_thing, s_open_fault, s_open_worth, s_open_table, s_list_num, s_list_truth, s_list_open, s_list_list, s_list_pair, s_list_either, s_list_left, s_list_right, s_list_thing, s_list_fault, s_list_worth, s_list_table, s_pair_num, s_pair_truth, s_pair_open, s_pair_list, s_pair_pair, s_pair_either, s_pair_left, s_pair_right, s_pair_thing, s_pair_fault, s_pair_worth, s_pair_table, s_either_num, s_either_truth, s_either_open, s_either_list, s_either_pair, s_either_either, s_either_left, s_either_right, s_either_thing, s_either_fault, s_either_worth, s_either_table, s_left_num, s_left_truth, s_left_open, s_left_list, s_left_pair, s_left_either, s_left_left, s_left_right, s_left_thing, s_left_fault, s_left_worth, s_left_table, s_right_num, s_right_truth, s_right_open, s_right_list, s_right_pair, s_right_either, s_right_left, s_right_right, s_right_thing, s_right_fault, s_right_worth, s_right_table, s_thing_num, s_thing_truth, s_thing_open, s_thing_list, s_thing_pair, s_thing_either, s_thing_left, s_thing_right, s_thing_thing, s_thing_fault, s_thing_worth, s_thing_table, s_fault_num, s_fault_truth, s_fault_open, s_fault_list, s_fault_pair, s_fault_either, s_fault_left, s_fault_right, s_fault_thing, s_fault_fault, s_fault_worth, s_fault_table, s_worth_num, s_worth_truth, s_worth_open, s_worth_list, s_worth_pair, s_worth_either, s_worth_left, s_worth_right, s_worth_thing, s_worth_fault, s_worth_worth, s_worth_table, s_table_num, s_table_truth, s_table_open, s_table_list, s_table_pair, s_table_either, s_table_left, s_table_right, s_table_thing, s_table_fault, s_table_worth, s_table_table]
    refine nested_or _ _ (fun _ => ?_) (fun e1 e2 => ?_)
    · -- a small kind
      refine ⟨z4000 (by simp), ?_⟩
      refine ⟨z4000 (by simp), z4000 (by simp), ?_⟩
      refine st_lst (by simp) (nw fun p S4 hp hpp x4 => ?_)
      try simp only [ev_t0, ev_t1, ev_t2, ev_eqs, ev_eqi, ev_intb, ev_inti, ev_add, ev_sub, ev_lt, ev_gt, ev_sl1, ev_in2, ev_lent, ev_isn, Bool.or_false, Bool.or_true, Bool.false_or, Bool.true_or, eqG_f, eqG_t, kq, Bool.not_true, Bool.not_false, if_true, if_false, ite_true, ite_false, reduceIte, s_num_num, s_num_truth, s_num_open, s_num_list, s_num_pair, s_num_either, s_num_left, s_num_right, s_num_thing, s_num_fault, s_num_worth, s_num_table, s_truth_num, s_truth_truth, s_truth_open, s_truth_list, s_truth_pair, s_truth_either, s_truth_left, s_truth_right, s_truth_thing, s_truth_fault, s_truth_worth, s_truth_table, s_open_num, s_open_truth, s_open_open, s_open_list, s_open_pair, s_open_either, s_open_left, s_open_right, s_open_thing, s_open_fault, s_open_worth, s_open_table, s_list_num, s_list_truth, s_list_open, s_list_list, s_list_pair, s_list_either, s_list_left, s_list_right, s_list_thing, s_list_fault, s_list_worth, s_list_table, s_pair_num, s_pair_truth, s_pair_open, s_pair_list, s_pair_pair, s_pair_either, s_pair_left, s_pair_right, s_pair_thing, s_pair_fault, s_pair_worth, s_pair_table, s_either_num, s_either_truth, s_either_open, s_either_list, s_either_pair, s_either_either, s_either_left, s_either_right, s_either_thing, s_either_fault, s_either_worth, s_either_table, s_left_num, s_left_truth, s_left_open, s_left_list, s_left_pair, s_left_either, s_left_left, s_left_right, s_left_thing, s_left_fault, s_left_worth, s_left_table, s_right_num, s_right_truth, s_right_open, s_right_list, s_right_pair, s_right_either, s_right_left, s_right_right, s_right_thing, s_right_fault, s_right_worth, s_right_table, s_thing_num, s_thing_truth, s_thing_open, s_thing_list, s_thing_pair, s_thing_either, s_thing_left, s_thing_right, s_thing_thing, s_thing_fault, s_thing_worth, s_thing_table, s_fault_num, s_fault_truth, s_fault_open, s_fault_list, s_fault_pair, s_fault_either, s_fault_left, s_fault_right, s_fault_thing, s_fault_fault, s_fault_worth, s_fault_table, s_worth_num, s_worth_truth, s_worth_open, s_worth_list, s_worth_pair, s_worth_either, s_worth_left, s_worth_right, s_worth_thing, s_worth_fault, s_worth_worth, s_worth_table, s_table_num, s_table_truth, s_table_open, s_table_list, s_table_pair, s_table_either, s_table_left, s_table_right, s_table_thing, s_table_fault, s_table_worth, s_table_table]
      obtain ⟨k, ek, hk⟩ : ∃ k : T, atI [T.tup [T.str "num"], T.tup [T.str "truth"]] (if sm = true then (1 : Int) else 0) = some k ∧ (k = .tup [.str "num"] ∨ k = .tup [.str "truth"]) := by
        cases sm with
        | true => exact ⟨_, at2_1, .inr rfl⟩
        | false => exact ⟨_, at2_0, .inl rfl⟩
      refine st_ixl hpp ek ?_
      have f4 := f3.ex x4
      refine st_lst (by simp) (nw fun p2 S5 hp2 hpp2 x5 => ?_)
      have f5 := f4.ex x5
      obtain ⟨g1, g2⟩ := f4.dk.neS hp2
      refine ⟨rfl, D, C, p2, _, rfl, f5.dk, g1, g2, hpp2, by simp, by simp, fun v S6 hv f6 => ?_⟩
      have f7 := f5.trans f6
      rcases List.mem_cons.mp hv with z | z
      · rw [z]; exact q .tru S6 trivial hd0 rfl (by show 2 + 2 ≤ _; omega) f7
      · rw [List.mem_singleton.mp z]
        rcases hk with hk | hk
        · rw [hk]; exact q .num S6 trivial hd0 rfl (by show 2 + 2 ≤ _; omega) f7
        · rw [hk]; exact q .tru S6 trivial hd0 rfl (by show 2 + 2 ≤ _; omega) f7
    · have d0 : d ≠ 0 := by simpa using e1
      have w6 : ¬ way < 6 := by simpa using e2
      rw [hv3]
      refine seq_cut fun v4 hv4 => ?_
      try simp only [tsNx, tsSeq, tsBrk, tsCt, tsDrop, tsRet, tsRetN, tsIf, tsAsg, tgN, tgsNil, tgsCons, tgTup, tgSub, tsFor, tsWhile, tiSeq, tiRng1, tiRng2, tiZip, tb, tv, tc, tac, tan, ttup, tlst, tq, tand, tor, tnot, tife, tandV, torV, tnotV, tneg, tsl, tno, tpt, tcall, tbi, tml, tml0, tmj, tisi, tlRev, tlRng1, tdisp, tps, tlc, ttYes, bt1, btN, setsT, wipeT, endT, List.getElem?_cons_zero, List.getElem?_cons_succ, List.set_cons_zero, List.set_cons_succ]
      try simp only [ev_t0, ev_t1, ev_t2, ev_eqs, ev_eqi, ev_intb, ev_inti, ev_add, ev_sub, ev_lt, ev_gt, ev_sl1, ev_in2, ev_lent, ev_isn, Bool.or_false, Bool.or_true, Bool.false_or, Bool.true_or, eqG_f, eqG_t, kq, Bool.not_true, Bool.not_false, if_true, if_false, ite_true, ite_false, reduceIte, s_num_num, s_num_truth, s_num_open, s_num_list, s_num_pair, s_num_either, s_num_left, s_num_right, s_num_thing, s_num_fault, s_num_worth, s_num_table, s_truth_num, s_truth_truth, s_truth_open, s_truth_list, s_truth_pair, s_truth_either, s_truth_left, s_truth_right, s_truth_thing, s_truth_fault, s_truth_worth, s_truth_table, s_open_num, s_open_truth, s_open_open, s_open_list, s_open_pair, s_open_either, s_open_left, s_open_right, s_open_thing, s_open_fault, s_open_worth, s_open_table, s_list_num, s_list_truth, s_list_open, s_list_list, s_list_pair, s_list_either, s_list_left, s_list_right, s_list_thing, s_list_fault, s_list_worth, s_list_table, s_pair_num, s_pair_truth, s_pair_open, s_pair_list, s_pair_pair, s_pair_either, s_pair_left, s_pair_right, s_pair_thing, s_pair_fault, s_pair_worth, s_pair_table, s_either_num, s_either_truth, s_either_open, s_either_list, s_either_pair, s_either_either, s_either_left, s_either_right, s_either_thing, s_either_fault, s_either_worth, s_either_table, s_left_num, s_left_truth, s_left_open, s_left_list, s_left_pair, s_left_either, s_left_left, s_left_right, s_left_thing, s_left_fault, s_left_worth, s_left_table, s_right_num, s_right_truth, s_right_open, s_right_list, s_right_pair, s_right_either, s_right_left, s_right_right, s_right_thing, s_right_fault, s_right_worth, s_right_table, s_thing_num, s_thing_truth, s_thing_open, s_thing_list, s_thing_pair, s_thing_either, s_thing_left, s_thing_right, s_thing_thing, s_thing_fault, s_thing_worth, s_thing_table, s_fault_num, s_fault_truth, s_fault_open, s_fault_list, s_fault_pair, s_fault_either, s_fault_left, s_fault_right, s_fault_thing, s_fault_fault, s_fault_worth, s_fault_table, s_worth_num, s_worth_truth, s_worth_open, s_worth_list, s_worth_pair, s_worth_either, s_worth_left, s_worth_right, s_worth_thing, s_worth_fault, s_worth_worth, s_worth_table, s_table_num, s_table_truth, s_table_open, s_table_list, s_table_pair, s_table_either, s_table_left, s_table_right, s_table_thing, s_table_fault, s_table_worth, s_table_table]
      cases e3 : decide (7 < way) with
      | true =>
        simp only []
        refine ⟨rfl, D, C, b, opens, d - 1, by rw [hsm], f3.dk, nD, nC, hb3, hlo, ho1, ho8, by omega, by omega, fun kd S4 k1 k2 ka km f4 => ?_⟩
        refine ⟨z4000 (by simp), ?_⟩
        exact q (.lst kd) S4 k1 (by show ((kd.h + 1 : Nat) : Int) ≤ d; omega) rfl (by show kd.m + 2 + 2 ≤ _; have := pd d0; omega) (f3.trans f4)
      | false =>
        simp only []
        rw [hv4]
        refine seq_cut fun v5 hv5 => ?_
        try simp only [tsNx, tsSeq, tsBrk, tsCt, tsDrop, tsRet, tsRetN, tsIf, tsAsg, tgN, tgsNil, tgsCons, tgTup, tgSub, tsFor, tsWhile, tiSeq, tiRng1, tiRng2, tiZip, tb, tv, tc, tac, tan, ttup, tlst, tq, tand, tor, tnot, tife, tandV, torV, tnotV, tneg, tsl, tno, tpt, tcall, tbi, tml, tml0, tmj, tisi, tlRev, tlRng1, tdisp, tps, tlc, ttYes, bt1, btN, setsT, wipeT, endT, List.getElem?_cons_zero, List.getElem?_cons_succ, List.set_cons_zero, List.set_cons_succ]
        try simp only [ev_t0, ev_t1, ev_t2, ev_eqs, ev_eqi, ev_intb, ev_inti, ev_add, ev_sub, ev_lt, ev_gt, ev_sl1, ev_in2, ev_lent, ev_isn, Bool.or_false, Bool.or_true, Bool.false_or, Bool.true_or, eqG_f, eqG_t, kq, Bool.not_true, Bool.not_false, if_true, if_false, ite_true, ite_false, reduceIte, s_num_num, s_num_truth, s_num_open, s_num_list, s_num_pair, s_num_either, s_num_left, s_num_right, s_num_thing, s_num_fault, s_num_worth, s_num_table, s_truth_num, s_truth_truth, s_truth_open, s_truth_list, s_truth_pair, s_truth_either, s_truth_left, s_truth_right, s_truth_thing, s_truth_fault, s_truth_worth, s_truth_table, s_open_num, s_open_truth, s_open_open, s_open_list, s_open_pair, s_open_either, s_open_left, s_open_right, s_open_thing, s_open_fault, s_open_worth, s_open_table, s_list_num, s_list_truth, s_list_open, s_list_list, s_list_pair, s_list_either, s_list_left, s_list_right, s_list_thing, s_list_fault, s_list_worth, s_list_table, s_pair_num, s_pair_truth, s_pair_open, s_pair_list, s_pair_pair, s_pair_either, s_pair_left, s_pair_right, s_pair_thing, s_pair_fault, s_pair_worth, s_pair_table, s_either_num, s_either_truth, s_either_open, s_either_list, s_either_pair, s_either_either, s_either_left, s_either_right, s_either_thing, s_either_fault, s_either_worth, s_either_table, s_left_num, s_left_truth, s_left_open, s_left_list, s_left_pair, s_left_either, s_left_left, s_left_right, s_left_thing, s_left_fault, s_left_worth, s_left_table, s_right_num, s_right_truth, s_right_open, s_right_list, s_right_pair, s_right_either, s_right_left, s_right_right, s_right_thing, s_right_fault, s_right_worth, s_right_table, s_thing_num, s_thing_truth, s_thing_open, s_thing_list, s_thing_pair, s_thing_either, s_thing_left, s_thing_right, s_thing_thing, s_thing_fault, s_thing_worth, s_thing_table, s_fault_num, s_fault_truth, s_fault_open, s_fault_list, s_fault_pair, s_fault_either, s_fault_left, s_fault_right, s_fault_thing, s_fault_fault, s_fault_worth, s_fault_table, s_worth_num, s_worth_truth, s_worth_open, s_worth_list, s_worth_pair, s_worth_either, s_worth_left, s_worth_right, s_worth_thing, s_worth_fault, s_worth_worth, s_worth_table, s_table_num, s_table_truth, s_table_open, s_table_list, s_table_pair, s_table_either, s_table_left, s_table_right, s_table_thing, s_table_fault, s_table_worth, s_table_table]
        refine ⟨rfl, D, C, b, opens, d - 1, by rw [hsm], f3.dk, nD, nC, hb3, hlo, ho1, ho8, by omega, by omega, fun kd S4 k1 k2 ka km f4 => ?_⟩
        have f5 := f3.trans f4
        have hb5 := f5.kp _ _ nD nC hb
        rw [hv5]
        try simp only [tsNx, tsSeq, tsBrk, tsCt, tsDrop, tsRet, tsRetN, tsIf, tsAsg, tgN, tgsNil, tgsCons, tgTup, tgSub, tsFor, tsWhile, tiSeq, tiRng1, tiRng2, tiZip, tb, tv, tc, tac, tan, ttup, tlst, tq, tand, tor, tnot, tife, tandV, torV, tnotV, tneg, tsl, tno, tpt, tcall, tbi, tml, tml0, tmj, tisi, tlRev, tlRng1, tdisp, tps, tlc, ttYes, bt1, btN, setsT, wipeT, endT, List.getElem?_cons_zero, List.getElem?_cons_succ, List.set_cons_zero, List.set_cons_succ]
        refine st_lst (by simp) (nw fun p S5 hp hpp x5 => ?_)
        have f6 := f5.ex x5
        have hb6 := f6.kp _ _ nD nC hb
        try simp only [ev_t0, ev_t1, ev_t2, ev_eqs, ev_eqi, ev_intb, ev_inti, ev_add, ev_sub, ev_lt, ev_gt, ev_sl1, ev_in2, ev_lent, ev_isn, Bool.or_false, Bool.or_true, Bool.false_or, Bool.true_or, eqG_f, eqG_t, kq, Bool.not_true, Bool.not_false, if_true, if_false, ite_true, ite_false, reduceIte, s_num_num, s_num_truth, s_num_open, s_num_list, s_num_pair, s_num_either, s_num_left, s_num_right, s_num_thing, s_num_fault, s_num_worth, s_num_table, s_truth_num, s_truth_truth, s_truth_open, s_truth_list, s_truth_pair, s_truth_either, s_truth_left, s_truth_right, s_truth_thing, s_truth_fault, s_truth_worth, s_truth_table, s_open_num, s_open_truth, s_open_open, s_open_list, s_open_pair, s_open_either, s_open_left, s_open_right, s_open_thing, s_open_fault, s_open_worth, s_open_table, s_list_num, s_list_truth, s_list_open, s_list_list, s_list_pair, s_list_either, s_list_left, s_list_right, s_list_thing, s_list_fault, s_list_worth, s_list_table, s_pair_num, s_pair_truth, s_pair_open, s_pair_list, s_pair_pair, s_pair_either, s_pair_left, s_pair_right, s_pair_thing, s_pair_fault, s_pair_worth, s_pair_table, s_either_num, s_either_truth, s_either_open, s_either_list, s_either_pair, s_either_either, s_either_left, s_either_right, s_either_thing, s_either_fault, s_either_worth, s_either_table, s_left_num, s_left_truth, s_left_open, s_left_list, s_left_pair, s_left_either, s_left_left, s_left_right, s_left_thing, s_left_fault, s_left_worth, s_left_table, s_right_num, s_right_truth, s_right_open, s_right_list, s_right_pair, s_right_either, s_right_left, s_right_right, s_right_thing, s_right_fault, s_right_worth, s_right_table, s_thing_num, s_thing_truth, s_thing_open, s_thing_list, s_thing_pair, s_thing_either, s_thing_left, s_thing_right, s_thing_thing, s_thing_fault, s_thing_worth, s_thing_table, s_fault_num, s_fault_truth, s_fault_open, s_fault_list, s_fault_pair, s_fault_either, s_fault_left, s_fault_right, s_fault_thing, s_fault_fault, s_fault_worth, s_fault_table, s_worth_num, s_worth_truth, s_worth_open, s_worth_list, s_worth_pair, s_worth_either, s_worth_left, s_worth_right, s_worth_thing, s_worth_fault, s_worth_worth, s_worth_table, s_table_num, s_table_truth, s_table_open, s_table_list, s_table_pair, s_table_either, s_table_left, s_table_right, s_table_thing, s_table_fault, s_table_worth, s_table_table]
        have h3 : ¬ 7 < way := by simpa using e3
        obtain ⟨s, es, hs⟩ : ∃ s : T, atI [T.str "pair", T.str "either"] (way - 6) = some s ∧ (s = .str "pair" ∨ s = .str "either") := by
          obtain ⟨x, ex, hx, _⟩ := atI_ok (xs := [T.str "pair", T.str "either"]) (i := way - 6) (by omega) (by simp; omega)
          exact ⟨x, ex, by simpa using hx⟩
        refine st_ixl hpp es ?_
        refine ⟨rfl, D, C, b, opens, d - 1, by rw [hsm], f6.dk, nD, nC, hb6, hlo, ho1, ho8, by omega, by omega, fun kd2 S7 k3 k4 kb kn f7 => ?_⟩
        refine ⟨z4000 (by simp), ?_⟩
        rcases hs with rfl | rfl
        · exact q (.pair kd kd2) S7 ⟨k1, k3⟩ (by show ((max kd.h kd2.h + 1 : Nat) : Int) ≤ d; omega) rfl (by show kd.m + kd2.m + 2 + 2 ≤ _; have := pd d0; omega) (f6.trans f7)
        · exact q (.eith kd kd2) S7 ⟨k1, k3⟩ (by show ((max kd.h kd2.h + 1 : Nat) : Int) ≤ d; omega) rfl (by show kd.m + kd2.m + 2 + 2 ≤ _; have := pd d0; omega) (f6.trans f7)
  try simp only [tsNx, tsSeq, tsBrk, tsCt, tsDrop, tsRet, tsRetN, tsIf, tsAsg, tgN, tgsNil, tgsCons, tgTup, tgSub, tsFor, tsWhile, tiSeq, tiRng1, tiRng2, tiZip, tb, tv, tc, tac, tan, ttup, tlst, tq, tand, tor, tnot, tife, tandV, torV, tnotV, tneg, tsl, tno, tpt, tcall, tbi, tml, tml0, tmj, tisi, tlRev, tlRng1, tdisp, tps, tlc, ttYes, bt1, btN, setsT, wipeT, endT, List.getElem?_cons_zero, List.getElem?_cons_succ, List.set_cons_zero, List.set_cons_succ]
  try simp only [ev_t0, ev_t1, ev_t2, ev_eqs, ev_eqi, ev_intb, ev_inti, ev_add, ev_sub, ev_lt, ev_gt, ev_sl1, ev_in2, ev_lent, ev_isn, Bool.or_false, Bool.or_true, Bool.false_or, Bool.true_or, eqG_f, eqG_t, kq, Bool.not_true, Bool.not_false, if_true, if_false, ite_true, ite_false, reduceIte, s_num_num, s_num_truth, s_num_open, s_num_list, s_num_pair, s_num_either, s_num_left, s_num_right, s_num_thing, s_num_fault, s_num_worth, s_num_table, s_truth_num, s_truth_truth, s_truth_open, s_truth_list, s_truth_pair, s_truth_either, s_truth_left, s_truth_right, s_truth_thing, s_truth_fault, s_truth_worth, s_truth_table, s_open_num, s_open_truth, s_open_open, s_open_list, s_open_pair, s_open_either, s_open_left, s_open_right, s_open_thing, s_open_fault, s_open_worth, s_open_table, s_list_num, s_list_truth, s_list_open, s_list_list, s_list_pair, s_list_either, s_list_left, s_list_right, s_list_thing, s_list_fault, s_list_worth, s_list_table, s_pair_num, s_pair_truth, s_pair_open, s_pair_list, s_pair_pair, s_pair_either, s_pair_left, s_pair_right, s_pair_thing, s_pair_fault, s_pair_worth, s_pair_table, s_either_num, s_either_truth, s_either_open, s_either_list, s_either_pair, s_either_either, s_either_left, s_either_right, s_either_thing, s_either_fault, s_either_worth, s_either_table, s_left_num, s_left_truth, s_left_open, s_left_list, s_left_pair, s_left_either, s_left_left, s_left_right, s_left_thing, s_left_fault, s_left_worth, s_left_table, s_right_num, s_right_truth, s_right_open, s_right_list, s_right_pair, s_right_either, s_right_left, s_right_right, s_right_thing, s_right_fault, s_right_worth, s_right_table, s_thing_num, s_thing_truth, s_thing_open, s_thing_list, s_thing_pair, s_thing_either, s_thing_left, s_thing_right, s_thing_thing, s_thing_fault, s_thing_worth, s_thing_table, s_fault_num, s_fault_truth, s_fault_open, s_fault_list, s_fault_pair, s_fault_either, s_fault_left, s_fault_right, s_fault_thing, s_fault_fault, s_fault_worth, s_fault_table, s_worth_num, s_worth_truth, s_worth_open, s_worth_list, s_worth_pair, s_worth_either, s_worth_left, s_worth_right, s_worth_thing, s_worth_fault, s_worth_worth, s_worth_table, s_table_num, s_table_truth, s_table_open, s_table_list, s_table_pair, s_table_either, s_table_left, s_table_right, s_table_thing, s_table_fault, s_table_worth, s_table_table]
  cases e0 : decide (way < 4) with
  | false =>
    simp only []
    exact rest S2 f2
  | true =>
    simp only []
    refine st_nil (nw fun p S3 hp hpp x3 => ?_)
    have f3 := f2.ex x3
    refine st_eql (x3 _ _ hb2) hpp (purs_strs _) purs_nil (by rw [depths_nil]; simp) ?_
    rw [eqTs_strs ho1]
    try simp only [ev_t0, ev_t1, ev_t2, ev_eqs, ev_eqi, ev_intb, ev_inti, ev_add, ev_sub, ev_lt, ev_gt, ev_sl1, ev_in2, ev_lent, ev_isn, Bool.or_false, Bool.or_true, Bool.false_or, Bool.true_or, eqG_f, eqG_t, kq, Bool.not_true, Bool.not_false, if_true, if_false, ite_true, ite_false, reduceIte, s_num_num, s_num_truth, s_num_open, s_num_list, s_num_pair, s_num_either, s_num_left, s_num_right, s_num_thing, s_num_fault, s_num_worth, s_num_table, s_truth_num, s_truth_truth, s_truth_open, s_truth_list, s_truth_pair, s_truth_either, s_truth_left, s_truth_right, s_truth_thing, s_truth_fault, s_truth_worth, s_truth_table, s_open_num, s_open_truth, s_open_open, s_open_list, s_open_pair, s_open_either, s_open_left, s_open_right, s_open_thing, s_open_fault, s_open_worth, s_open_table, s_list_num, s_list_truth, s_list_open, s_list_list, s_list_pair, s_list_either, s_list_left, s_list_right, s_list_thing, s_list_fault, s_list_worth, s_list_table, s_pair_num, s_pair_truth, s_pair_open, s_pair_list, s_pair_pair, s_pair_either, s_pair_left, s_pair_right, s_pair_thing, s_pair_fault, s_pair_worth, s_pair_table, s_either_num, s_either_truth, s_either_open, s_either_list, s_either_pair, s_either_either, s_either_left, s_either_right, s_either_thing, s_either_fault, s_either_worth, s_either_table, s_left_num, s_left_truth, s_left_open, s_left_list, s_left_pair, s_left_either, s_left_left, s_left_right, s_left_thing, s_left_fault, s_left_worth, s_left_table, s_right_num, s_right_truth, s_right_open, s_right_list, s_right_pair, s_right_either, s_right_left, s_right_right, s_right_thing, s_right_fault, s_right_worth, s_right_table, s_thing_num, s_thing_truth, s_thing_open, s_thing_list, s_thing_pair, s_thing_either, s_thing_left, s_thing_right, s_thing_thing, s_thing_fault, s_thing_worth, s_thing_table, s_fault_num, s_fault_truth, s_fault_open, s_fault_list, s_fault_pair, s_fault_either, s_fault_left, s_fault_right, s_fault_thing, s_fault_fault, s_fault_worth, s_fault_table, s_worth_num, s_worth_truth, s_worth_open, s_worth_list, s_worth_pair, s_worth_either, s_worth_left, s_worth_right, s_worth_thing, s_worth_fault, s_worth_worth, s_worth_table, s_table_num, s_table_truth, s_table_open, s_table_list, s_table_pair, s_table_either, s_table_left, s_table_right, s_table_thing, s_table_fault, s_table_worth, s_table_table]
    refine ⟨rfl, D, C, b, opens.map T.str, rfl, f3.dk, nD, nC, x3 _ _ hb2, by simpa using ho1, by rw [List.length_map]; omega, fun v S4 hv f4 => ?_⟩
    obtain ⟨x, hx, rfl⟩ := List.mem_map.mp hv
    refine ⟨z4000 (by simp), ?_⟩
    exact q (.opn x) S4 (hlo x hx) hd0 rfl (by show 3 + 2 ≤ _; omega) (f3.trans f4)
/-! a kind with arguments -/
theorem vc_dataF (n : Nat) (hn : 3 ≤ n) (ts : List T) (S : Sto) (Q : T → Sto → Prop) (hl : ts.length = 3) (h : spDataF ts S Q) : t_Ldata_function n (endT Q) (startT N_Ldata_function.length ts) S := by
  obtain ⟨D, C, b, opens, m, rfl, dk, nD, nC, hb, hlo, ho1, ho8, hm0, hm3, q⟩ := h
  rw [show startT N_Ldata_function.length [T.adr D, T.adr b, T.int m] = [some (T.adr D), some (T.adr b), some (T.int m), none, none] from rfl]
  unfold t_Ldata_function
  refine seq_cut fun v1 hv1 => ?_
  try simp only [tsNx, tsSeq, tsBrk, tsCt, tsDrop, tsRet, tsRetN, tsIf, tsAsg, tgN, tgsNil, tgsCons, tgTup, tgSub, tsFor, tsWhile, tiSeq, tiRng1, tiRng2, tiZip, tb, tv, tc, tac, tan, ttup, tlst, tq, tand, tor, tnot, tife, tandV, torV, tnotV, tneg, tsl, tno, tpt, tcall, tbi, tml, tml0, tmj, tisi, tlRev, tlRng1, tdisp, tps, tlc, ttYes, bt1, btN, setsT, wipeT, endT, List.getElem?_cons_zero, List.getElem?_cons_succ, List.set_cons_zero, List.set_cons_succ]
  refine ⟨rfl, D, C, b, opens, 2, rfl, dk, nD, nC, hb, hlo, ho1, ho8, by omega, by omega, fun k0 S1 k1 k2 ka km f1 => ?_⟩
  rw [hv1]
  refine seq_cut fun v2 hv2 => ?_
  try simp only [tsNx, tsSeq, tsBrk, tsCt, tsDrop, tsRet, tsRetN, tsIf, tsAsg, tgN, tgsNil, tgsCons, tgTup, tgSub, tsFor, tsWhile, tiSeq, tiRng1, tiRng2, tiZip, tb, tv, tc, tac, tan, ttup, tlst, tq, tand, tor, tnot, tife, tandV, torV, tnotV, tneg, tsl, tno, tpt, tcall, tbi, tml, tml0, tmj, tisi, tlRev, tlRng1, tdisp, tps, tlc, ttYes, bt1, btN, setsT, wipeT, endT, List.getElem?_cons_zero, List.getElem?_cons_succ, List.set_cons_zero, List.set_cons_succ]
  refine ⟨by omega, by omega, ⟨fun i ρ S' => i ≤ m.toNat ∧ Fr D C S S' ∧ ∃ kd x4, ρ = [some (T.adr D), some (T.adr b), some (T.int m), some (Kd.t kd), x4] ∧ kd.ok ∧ kd.h ≤ 2 + i ∧ kd.ar ≤ i ∧ kd.m + 2 ≤ 20 + 20 * i, ?_, ?_⟩⟩
  · exact ⟨Nat.zero_le _, f1, k0, none, rfl, k1, by omega, by omega, by simpa using km⟩
  · rintro i ρ S' ⟨hi, fr, kd, x4, rfl, o1, o2, o3, o4⟩
    refine ⟨trivial, ?_⟩
    cases hx : (rngT 0 m.toNat)[i]? with
    | none =>
      have := rng_none hx
      simp only []
      rw [hv2]
      try simp only [tsNx, tsSeq, tsBrk, tsCt, tsDrop, tsRet, tsRetN, tsIf, tsAsg, tgN, tgsNil, tgsCons, tgTup, tgSub, tsFor, tsWhile, tiSeq, tiRng1, tiRng2, tiZip, tb, tv, tc, tac, tan, ttup, tlst, tq, tand, tor, tnot, tife, tandV, torV, tnotV, tneg, tsl, tno, tpt, tcall, tbi, tml, tml0, tmj, tisi, tlRev, tlRng1, tdisp, tps, tlc, ttYes, bt1, btN, setsT, wipeT, endT, List.getElem?_cons_zero, List.getElem?_cons_succ, List.set_cons_zero, List.set_cons_succ]
      exact q kd S' ⟨o1, by show _ ≤ 80 * 2 ^ 0; omega, by show _ ≤ 6 + 3 * 0; omega, by omega⟩ fr
    | some x =>
      obtain ⟨j1, rfl⟩ := rng_some hx
      try simp only [tsNx, tsSeq, tsBrk, tsCt, tsDrop, tsRet, tsRetN, tsIf, tsAsg, tgN, tgsNil, tgsCons, tgTup, tgSub, tsFor, tsWhile, tiSeq, tiRng1, tiRng2, tiZip, tb, tv, tc, tac, tan, ttup, tlst, tq, tand, tor, tnot, tife, tandV, torV, tnotV, tneg, tsl, tno, tpt, tcall, tbi, tml, tml0, tmj, tisi, tlRev, tlRng1, tdisp, tps, tlc, ttYes, bt1, btN, setsT, wipeT, endT, List.getElem?_cons_zero, List.getElem?_cons_succ, List.set_cons_zero, List.set_cons_succ]
      refine ⟨rfl, D, C, b, opens, 2, rfl, fr.dk, nD, nC, fr.kp _ _ nD nC hb, hlo, ho1, ho8, by omega, by omega, fun k3 S2 g1 g2 ga gm f2 => ?_⟩
      refine ⟨z4000 (by simp), ?_⟩
      refine ⟨j1, fr.trans f2, .fn k3 kd, _, rfl, ⟨g1, o1, by omega⟩, ?_, ?_, ?_⟩
      · show max k3.h kd.h + 1 ≤ _; omega
      · show kd.ar + 1 ≤ _; omega
      · show k3.m + kd.m + 2 + 2 ≤ _
        have : k3.m + 2 ≤ 20 := by simpa using gm
        omega
end LAW
set_option Elab.async false
set_option linter.all false
set_option maxRecDepth 100000
set_option maxHeartbeats 1000000
/-! D5: the program's walk over a term's places. -/
namespace LAW
open PySem PySem.Spec PyProof.Rows L2 TL
theorem spots_snoc (b : Bool) : ∀ (xs : List Bool) (k : Nat), spots k (xs ++ [b]) = spots k xs ++ (match b with | true => [k + xs.length] | false => [])
  | [], k => by cases b <;> rfl
  | true :: xs, k => by
    show k :: spots (k + 1) (xs ++ [b]) = _
    rw [spots_snoc b xs (k + 1)]
    show _ = k :: spots (k + 1) xs ++ _
    rw [List.length_cons, show k + 1 + xs.length = k + (xs.length + 1) by omega]
    rfl
  | false :: xs, k => by
    show spots (k + 1) (xs ++ [b]) = _
    rw [spots_snoc b xs (k + 1)]
    show _ = spots (k + 1) xs ++ _
    rw [List.length_cons, show k + 1 + xs.length = k + (xs.length + 1) by omega]
theorem spots_le : ∀ (xs : List Bool) (k : Nat), (spots k xs).length ≤ xs.length
  | [], k => Nat.le_refl 0
  | true :: xs, k => by show (spots (k + 1) xs).length + 1 ≤ xs.length + 1; have := spots_le xs (k + 1); omega
  | false :: xs, k => by show (spots (k + 1) xs).length ≤ xs.length + 1; have := spots_le xs (k + 1); omega
theorem take_snoc {α : Type} {xs : List α} {i : Nat} {x : α} (h : xs[i]? = some x) : xs.take (i + 1) = xs.take i ++ [x] := by
  rw [List.take_add_one, h]; rfl
theorem is_t (c : Nat) : ((⟨#[c]⟩ : Str) == "t") = decide (c = 116) := by
  by_cases h : c = 116
  · subst h; decide +kernel
  · have : ((⟨#[c]⟩ : Str) == "t") = false := by
      rw [beq_eq_false_iff_ne]
      intro z
      have e : (Str.ofString "t").cps = #[116] := by decide +kernel
      have := congrArg Str.cps z
      rw [e] at this
      simp at this
      exact h this
    rw [this, decide_eq_false h]
theorem form_len : ∀ r ∈ formsL, r.2.cps.toList.length ≤ 5 := by decide +kernel
theorem signs_form {w : Str} {sg : List Bool} (h : signs w = some sg) : ∃ z, formOf w = some z ∧ sg = z.cps.toList.map (fun c => decide (c = 116)) ∧ z.cps.toList.length ≤ 5 := by
  unfold signs at h
  cases e : formOf w with
  | none => rw [e] at h; cases h
  | some z =>
    rw [e] at h
    cases h
    refine ⟨z, rfl, rfl, ?_⟩
    unfold formOf at e
    cases e2 : formsL.find? fun r => decide (r.1 = w) with
    | none => rw [e2] at e; cases e
    | some r =>
      rw [e2] at e
      cases e
      exact form_len r (List.mem_of_find?_eq_some e2)
theorem vc_spots (ts : List T) (S : Sto) (Q : T → Sto → Prop) (hl : ts.length = 1) (h : spSpots ts S Q) : t_term_spots (endT Q) (startT N_term_spots.length ts) S := by
  obtain ⟨w, sg, ps, rfl, hw, q⟩ := h
  rw [show startT N_term_spots.length [T.tup (.str w :: ps)] = [some (T.tup (.str w :: ps)), none, none] from rfl]
  obtain ⟨z, hz, hs, h5⟩ := signs_form hw
  have hf : formsF w = some (.str z) := by unfold formsF; rw [hz]; rfl
  try simp only [t_term_spots, tsNx, tsSeq, tsBrk, tsCt, tsDrop, tsRet, tsRetN, tsIf, tsAsg, tgN, tgsNil, tgsCons, tgTup, tgSub, tsFor, tsWhile, tiSeq, tiRng1, tiRng2, tiZip, tb, tv, tc, tac, tan, ttup, tlst, tq, tand, tor, tnot, tife, tandV, torV, tnotV, tneg, tsl, tno, tpt, tcall, tbi, tml, tml0, tmj, tisi, tlRev, tlRng1, tdisp, tps, tlc_eq, tiEnumS, tixK, tiItems, tiVals, ttYes, bt1, btN, setsT, wipeT, endT, List.getElem?_cons_zero, List.getElem?_cons_succ, List.set_cons_zero, List.set_cons_succ]
  try simp only [hf, ev_t0, ev_t1, ev_t2, ev_eqs, ev_eqi, ev_intb, ev_inti, ev_add, ev_sub, ev_lt, ev_gt, ev_sl1, ev_in2, ev_lent, ev_isn, Bool.or_false, Bool.or_true, Bool.false_or, Bool.true_or, eqG_f, eqG_t, kq, Bool.not_true, Bool.not_false, if_true, if_false, ite_true, ite_false, reduceIte, s_num_num, s_num_truth, s_num_open, s_num_list, s_num_pair, s_num_either, s_num_left, s_num_right, s_num_thing, s_num_fault, s_num_worth, s_num_table, s_truth_num, s_truth_truth, s_truth_open, s_truth_list, s_truth_pair, s_truth_either, s_truth_left, s_truth_right, s_truth_thing, s_truth_fault, s_truth_worth, s_truth_table, s_open_num, s_open_truth, s_open_open, s_open_list, s_open_pair, s_open_either, s_open_left, s_open_right, s_open_thing, s_open_fault, s_open_worth, s_open_table, s_list_num, s_list_truth, s_list_open, s_list_list, s_list_pair, s_list_either, s_list_left, s_list_right, s_list_thing, s_list_fault, s_list_worth, s_list_table, s_pair_num, s_pair_truth, s_pair_open, s_pair_list, s_pair_pair, s_pair_either, s_pair_left, s_pair_right, s_pair_thing, s_pair_fault, s_pair_worth, s_pair_table, s_either_num, s_either_truth, s_either_open, s_either_list, s_either_pair, s_either_either, s_either_left, s_either_right, s_either_thing, s_either_fault, s_either_worth, s_either_table, s_left_num, s_left_truth, s_left_open, s_left_list, s_left_pair, s_left_either, s_left_left, s_left_right, s_left_thing, s_left_fault, s_left_worth, s_left_table, s_right_num, s_right_truth, s_right_open, s_right_list, s_right_pair, s_right_either, s_right_left, s_right_right, s_right_thing, s_right_fault, s_right_worth, s_right_table, s_thing_num, s_thing_truth, s_thing_open, s_thing_list, s_thing_pair, s_thing_either, s_thing_left, s_thing_right, s_thing_thing, s_thing_fault, s_thing_worth, s_thing_table, s_fault_num, s_fault_truth, s_fault_open, s_fault_list, s_fault_pair, s_fault_either, s_fault_left, s_fault_right, s_fault_thing, s_fault_fault, s_fault_worth, s_fault_table, s_worth_num, s_worth_truth, s_worth_open, s_worth_list, s_worth_pair, s_worth_either, s_worth_left, s_worth_right, s_worth_thing, s_worth_fault, s_worth_worth, s_worth_table, s_table_num, s_table_truth, s_table_open, s_table_list, s_table_pair, s_table_either, s_table_left, s_table_right, s_table_thing, s_table_fault, s_table_worth, s_table_table]
  refine lc_ex (fun i acc => i ≤ sg.length ∧ acc = (spots 1 (sg.take i)).map fun (k : Nat) => T.int (k : Int)) ⟨Nat.zero_le _, rfl⟩ fun i acc S' hA ex => ⟨trivial, ?_⟩
  obtain ⟨hi, rfl⟩ := hA
  have hlen : sg.length = z.cps.toList.length := by rw [hs, List.length_map]
  simp only [enumT_get]
  cases hx : z.cps.toList[i]? with
  | none =>
    have := List.getElem?_eq_none_iff.mp hx
    simp only [Option.map_none]
    intro D hD hS
    rw [List.take_of_length_le (by omega)] at hS
    exact q D S' ex hD hS
  | some c =>
    have hlt := (List.getElem?_eq_some_iff.mp hx).1
    simp only [Option.map_some]
    have hsi : sg[i]? = some (decide (c = 116)) := by rw [hs, List.getElem?_map, hx]; rfl
    refine ⟨_, rfl, ?_, fun Rt Rf h1 h2 => ?_⟩
    · rw [List.length_map]
      have := spots_le (sg.take i) 1
      rw [List.length_take] at this
      exact Nat.lt_of_lt_of_le (show _ < 100 by omega) (by decide)
    · try simp only [tsNx, tsSeq, tsBrk, tsCt, tsDrop, tsRet, tsRetN, tsIf, tsAsg, tgN, tgsNil, tgsCons, tgTup, tgSub, tsFor, tsWhile, tiSeq, tiRng1, tiRng2, tiZip, tb, tv, tc, tac, tan, ttup, tlst, tq, tand, tor, tnot, tife, tandV, torV, tnotV, tneg, tsl, tno, tpt, tcall, tbi, tml, tml0, tmj, tisi, tlRev, tlRng1, tdisp, tps, tlc_eq, tiEnumS, tixK, tiItems, tiVals, ttYes, bt1, btN, setsT, wipeT, endT, List.getElem?_cons_zero, List.getElem?_cons_succ, List.set_cons_zero, List.set_cons_succ]
      try simp only [is_t, ev_t0, ev_t1, ev_t2, ev_eqs, ev_eqi, ev_intb, ev_inti, ev_add, ev_sub, ev_lt, ev_gt, ev_sl1, ev_in2, ev_lent, ev_isn, Bool.or_false, Bool.or_true, Bool.false_or, Bool.true_or, eqG_f, eqG_t, kq, Bool.not_true, Bool.not_false, if_true, if_false, ite_true, ite_false, reduceIte, s_num_num, s_num_truth, s_num_open, s_num_list, s_num_pair, s_num_either, s_num_left, s_num_right, s_num_thing, s_num_fault, s_num_worth, s_num_table, s_truth_num, s_truth_truth, s_truth_open, s_truth_list, s_truth_pair, s_truth_either, s_truth_left, s_truth_right, s_truth_thing, s_truth_fault, s_truth_worth, s_truth_table, s_open_num, s_open_truth, s_open_open, s_open_list, s_open_pair, s_open_either, s_open_left, s_open_right, s_open_thing, s_open_fault, s_open_worth, s_open_table, s_list_num, s_list_truth, s_list_open, s_list_list, s_list_pair, s_list_either, s_list_left, s_list_right, s_list_thing, s_list_fault, s_list_worth, s_list_table, s_pair_num, s_pair_truth, s_pair_open, s_pair_list, s_pair_pair, s_pair_either, s_pair_left, s_pair_right, s_pair_thing, s_pair_fault, s_pair_worth, s_pair_table, s_either_num, s_either_truth, s_either_open, s_either_list, s_either_pair, s_either_either, s_either_left, s_either_right, s_either_thing, s_either_fault, s_either_worth, s_either_table, s_left_num, s_left_truth, s_left_open, s_left_list, s_left_pair, s_left_either, s_left_left, s_left_right, s_left_thing, s_left_fault, s_left_worth, s_left_table, s_right_num, s_right_truth, s_right_open, s_right_list, s_right_pair, s_right_either, s_right_left, s_right_right, s_right_thing, s_right_fault, s_right_worth, s_right_table, s_thing_num, s_thing_truth, s_thing_open, s_thing_list, s_thing_pair, s_thing_either, s_thing_left, s_thing_right, s_thing_thing, s_thing_fault, s_thing_worth, s_thing_table, s_fault_num, s_fault_truth, s_fault_open, s_fault_list, s_fault_pair, s_fault_either, s_fault_left, s_fault_right, s_fault_thing, s_fault_fault, s_fault_worth, s_fault_table, s_worth_num, s_worth_truth, s_worth_open, s_worth_list, s_worth_pair, s_worth_either, s_worth_left, s_worth_right, s_worth_thing, s_worth_fault, s_worth_worth, s_worth_table, s_table_num, s_table_truth, s_table_open, s_table_list, s_table_pair, s_table_either, s_table_left, s_table_right, s_table_thing, s_table_fault, s_table_worth, s_table_table]
      rw [take_snoc hsi, spots_snoc, List.length_take, Nat.min_eq_left (by omega)] at h1 h2
      cases hb : decide (c = 116) with
      | true =>
        simp only []
        refine h1 _ S' (fun _ _ e => e) ⟨by omega, ?_⟩
        rw [hb, List.map_append]
        refine congrArg (_ ++ ·) ?_
        show [T.int _] = [T.int _]
        congr 2
        omega
      | false =>
        simp only []
        refine h2 S' (fun _ _ e => e) ⟨by omega, ?_⟩
        rw [hb]; simp
end LAW
set_option Elab.async false
set_option linter.all false
set_option maxRecDepth 100000
set_option maxHeartbeats 1000000
/-! D6: the inner terms, and a term with others inside. -/
namespace LAW
open PySem PySem.Spec PyProof.Rows L2 TL
theorem inn_spots : ∀ (sg : List Bool) (ps pre : List T), sg.length = ps.length → (spots pre.length sg).map (fun k => (pre ++ ps)[k]?) = (inn sg ps).map some
  | [], ps, pre, h => rfl
  | true :: sg, p :: ps, pre, h => by
    show (pre ++ p :: ps)[pre.length]? :: (spots (pre.length + 1) sg).map _ = some p :: (inn sg ps).map some
    have := inn_spots sg ps (pre ++ [p]) (by simpa using h)
    rw [List.append_assoc, List.length_append] at this
    rw [← this]
    congr 1
    simp
  | false :: sg, p :: ps, pre, h => by
    show (spots (pre.length + 1) sg).map _ = (inn sg ps).map some
    have := inn_spots sg ps (pre ++ [p]) (by simpa using h)
    rw [List.append_assoc, List.length_append] at this
    exact this
  | true :: sg, [], pre, h => by simp at h
  | false :: sg, [], pre, h => by simp at h
theorem inn_len : ∀ (sg : List Bool) (ps : List T), sg.length = ps.length → ∀ k, (spots k sg).length = (inn sg ps).length
  | [], ps, h, k => rfl
  | true :: sg, p :: ps, h, k => congrArg (· + 1) (inn_len sg ps (by simpa using h) (k + 1))
  | false :: sg, p :: ps, h, k => inn_len sg ps (by simpa using h) (k + 1)
  | true :: sg, [], h, k => by simp at h
  | false :: sg, [], h, k => by simp at h
theorem sg_len {w : Str} {sg : List Bool} (h : signs w = some sg) : sg.length ≤ 5 := by
  obtain ⟨z, _, rfl, h5⟩ := signs_form h
  rw [List.length_map]; exact h5
theorem map_some_inj {α : Type} : ∀ {xs ys : List α}, xs.map some = ys.map some → xs = ys
  | [], [], _ => rfl
  | x :: xs, y :: ys, h => by
    rw [List.map_cons, List.map_cons, List.cons.injEq, Option.some.injEq] at h
    rw [h.1, map_some_inj h.2]
  | [], _ :: _, h => by simp at h
  | _ :: _, [], h => by simp at h
theorem vc_inner (ts : List T) (S : Sto) (Q : T → Sto → Prop) (hl : ts.length = 1) (h : spInner ts S Q) : t_inner_terms (endT Q) (startT N_inner_terms.length ts) S := by
  obtain ⟨w, sg, ps, rfl, hw, hlen, q⟩ := h
  rw [show startT N_inner_terms.length [T.tup (.str w :: ps)] = [some (T.tup (.str w :: ps)), none] from rfl]
  try simp only [t_inner_terms, tsNx, tsSeq, tsBrk, tsCt, tsDrop, tsRet, tsRetN, tsIf, tsAsg, tgN, tgsNil, tgsCons, tgTup, tgSub, tsFor, tsWhile, tiSeq, tiRng1, tiRng2, tiZip, tb, tv, tc, tac, tan, ttup, tlst, tq, tand, tor, tnot, tife, tandV, torV, tnotV, tneg, tsl, tno, tpt, tcall, tbi, tml, tml0, tmj, tisi, tlRev, tlRng1, tdisp, tps, tlc_eq, tiEnumS, tixK, tiItems, tiVals, ttYes, bt1, btN, setsT, wipeT, endT, List.getElem?_cons_zero, List.getElem?_cons_succ, List.set_cons_zero, List.set_cons_succ]
  refine ⟨rfl, w, sg, ps, rfl, hw, fun p S1 x1 hp hpp => ?_⟩
  simp only [lstAt_of hpp]
  have key := inn_spots sg ps [.str w] hlen
  have h5 := sg_len hw
  refine lc_ex (fun i acc => i ≤ (spots 1 sg).length ∧ acc.map some = ((spots 1 sg).take i).map fun k => (T.str w :: ps)[k]?) ⟨Nat.zero_le _, rfl⟩ fun i acc S' hA ex => ⟨lstAt_of (ex _ _ hpp), ?_⟩
  obtain ⟨hi, ha⟩ := hA
  have hsl := spots_le sg 1
  rw [List.getElem?_map]
  cases hx : (spots 1 sg)[i]? with
  | none =>
    have := List.getElem?_eq_none_iff.mp hx
    simp only [Option.map_none]
    intro D hD hS
    rw [List.take_of_length_le (by omega)] at ha
    have e : acc = inn sg ps := map_some_inj (ha.trans key)
    rw [e] at hS
    exact q D S' (x1.trans ex) (x1.none hD) hS
  | some k =>
    have hlt := (List.getElem?_eq_some_iff.mp hx).1
    simp only [Option.map_some]
    have hal := congrArg List.length ha
    simp only [List.length_map, List.length_take] at hal
    refine ⟨_, rfl, Nat.lt_of_lt_of_le (show _ < 100 by omega) (by decide), fun Rt Rf h1 h2 => ?_⟩
    try simp only [tsNx, tsSeq, tsBrk, tsCt, tsDrop, tsRet, tsRetN, tsIf, tsAsg, tgN, tgsNil, tgsCons, tgTup, tgSub, tsFor, tsWhile, tiSeq, tiRng1, tiRng2, tiZip, tb, tv, tc, tac, tan, ttup, tlst, tq, tand, tor, tnot, tife, tandV, torV, tnotV, tneg, tsl, tno, tpt, tcall, tbi, tml, tml0, tmj, tisi, tlRev, tlRng1, tdisp, tps, tlc_eq, tiEnumS, tixK, tiItems, tiVals, ttYes, bt1, btN, setsT, wipeT, endT, List.getElem?_cons_zero, List.getElem?_cons_succ, List.set_cons_zero, List.set_cons_succ]
    have hk : ∃ x, (T.str w :: ps)[k]? = some x := by
      have e2 := congrArg (fun l => l[i]?) key
      simp only [List.getElem?_map] at e2
      rw [show spots [T.str w].length sg = spots 1 sg from rfl, hx] at e2
      have e2 : some (T.str w :: ps)[k]? = ((inn sg ps)[i]?).map some := e2
      cases e3 : (inn sg ps)[i]? with
      | none => rw [e3] at e2; cases e2
      | some x => rw [e3] at e2; exact ⟨x, Option.some.inj e2⟩
    obtain ⟨x, hkx⟩ := hk
    refine st_ixt (v := x) (atI_nat hkx) ?_
    refine h1 x S' (fun _ _ e => e) ⟨by omega, ?_⟩
    rw [take_snoc hx, List.map_append, List.map_append, ha]
    refine congrArg (_ ++ ·) ?_
    show [some x] = [(T.str w :: ps)[k]?]
    rw [hkx]
/-! parts are put -/
def setK : List T → List Nat → List T → List T
  | xs, k :: ks, q :: qs => setK (xs.set k q) ks qs
  | xs, _, _ => xs
theorem set_pre (pre : List T) (p q : T) (ps : List T) : (pre ++ p :: ps).set pre.length q = (pre ++ [q]) ++ ps := by
  rw [List.set_append_right _ _ (Nat.le_refl _), Nat.sub_self, List.set_cons_zero, List.append_assoc]; rfl
theorem setK_put : ∀ (sg : List Bool) (ps qs pre : List T), sg.length = ps.length → qs.length = (inn sg ps).length → setK (pre ++ ps) (spots pre.length sg) qs = pre ++ putIn sg ps qs
  | [], [], qs, pre, h, h2 => by cases qs <;> rfl
  | true :: sg, p :: ps, q :: qs, pre, h, h2 => by
    show setK ((pre ++ p :: ps).set pre.length q) (spots (pre.length + 1) sg) qs = pre ++ q :: putIn sg ps qs
    rw [set_pre]
    have := setK_put sg ps qs (pre ++ [q]) (by simpa using h) (by simpa [inn] using h2)
    rw [List.length_append] at this
    rw [show pre.length + 1 = pre.length + [q].length from rfl, this, List.append_assoc]; rfl
  | false :: sg, p :: ps, qs, pre, h, h2 => by
    show setK (pre ++ p :: ps) (spots (pre.length + 1) sg) qs = pre ++ p :: putIn sg ps qs
    have := setK_put sg ps qs (pre ++ [p]) (by simpa using h) (by simpa [inn] using h2)
    rw [List.length_append, List.append_assoc, List.append_assoc] at this
    exact this
  | true :: sg, p :: ps, [], pre, h, h2 => by simp [inn] at h2
  | true :: sg, [], qs, pre, h, h2 => by simp at h
  | false :: sg, [], qs, pre, h, h2 => by simp at h
  | [], p :: ps, qs, pre, h, h2 => by simp at h
theorem spots_in : ∀ (sg : List Bool) (a k : Nat), k ∈ spots a sg → a ≤ k ∧ k < a + sg.length
  | [], a, k, h => by cases h
  | true :: sg, a, k, h => by
    rw [List.length_cons]
    rcases List.mem_cons.mp (show k ∈ a :: spots (a + 1) sg from h) with z | z
    · omega
    · have := spots_in sg (a + 1) k z; omega
  | false :: sg, a, k, h => by
    rw [List.length_cons]
    have := spots_in sg (a + 1) k (show k ∈ spots (a + 1) sg from h); omega
theorem vc_with (ts : List T) (S : Sto) (Q : T → Sto → Prop) (hl : ts.length = 2) (h : spWith ts S Q) : t_with_inner (endT Q) (startT N_with_inner.length ts) S := by
  obtain ⟨w, sg, ps, qs, b, rfl, hw, hlen, hb, hq, q⟩ := h
  rw [show startT N_with_inner.length [T.tup (.str w :: ps), T.adr b] = [some (T.tup (.str w :: ps)), some (T.adr b), none, none, none] from rfl]
  unfold t_with_inner
  refine seq_cut fun v1 hv1 => ?_
  try simp only [oLst, tsNx, tsSeq, tsBrk, tsCt, tsDrop, tsRet, tsRetN, tsIf, tsAsg, tgN, tgsNil, tgsCons, tgTup, tgSub, tsFor, tsWhile, tiSeq, tiRng1, tiRng2, tiZip, tb, tv, tc, tac, tan, ttup, tlst, tq, tand, tor, tnot, tife, tandV, torV, tnotV, tneg, tsl, tno, tpt, tcall, tbi, tml, tml0, tmj, tisi, tlRev, tlRng1, tdisp, tps, tlc_eq, tiEnumS, tixK, tiItems, tiVals, ttYes, bt1, btN, setsT, wipeT, endT, List.getElem?_cons_zero, List.getElem?_cons_succ, List.set_cons_zero, List.set_cons_succ]
  refine nw fun F S1 hF hFF x1 => ?_
  rw [hv1]
  refine seq_cut fun v2 hv2 => ?_
  try simp only [tsNx, tsSeq, tsBrk, tsCt, tsDrop, tsRet, tsRetN, tsIf, tsAsg, tgN, tgsNil, tgsCons, tgTup, tgSub, tsFor, tsWhile, tiSeq, tiRng1, tiRng2, tiZip, tb, tv, tc, tac, tan, ttup, tlst, tq, tand, tor, tnot, tife, tandV, torV, tnotV, tneg, tsl, tno, tpt, tcall, tbi, tml, tml0, tmj, tisi, tlRev, tlRng1, tdisp, tps, tlc_eq, tiEnumS, tixK, tiItems, tiVals, ttYes, bt1, btN, setsT, wipeT, endT, List.getElem?_cons_zero, List.getElem?_cons_succ, List.set_cons_zero, List.set_cons_succ]
  refine ⟨rfl, w, sg, ps, rfl, hw, fun p S2 x2 hp hpp => ?_⟩
  have x12 := x1.trans x2
  have hb2 := x12 _ _ hb
  have hF2 := x2 _ _ hFF
  have hFp : F ≠ p := fun z => by rw [← z, hFF] at hp; cases hp
  have hFb : F ≠ b := fun z => by rw [z, hb] at hF; cases hF
  simp only [sqT?, lstAt_of hpp, lstAt_of hb2, Option.map_some]
  refine ⟨fun i ρ S' => (∃ x3 x4, ρ = [some (T.tup (.str w :: ps)), some (T.adr b), some (T.adr F), x3, x4]) ∧ Kp (fun a => a = F) S2 S' ∧
    ∃ cur, S' F = some (.lst cur) ∧ cur.length = ps.length + 1 ∧ setK cur ((spots 1 sg).drop i) (qs.drop i) = T.str w :: putIn sg ps qs, ?_, ?_⟩
  · exact ⟨⟨none, none, rfl⟩, .refl, _, hF2, rfl, setK_put sg ps qs [.str w] hlen hq⟩
  · rintro i ρ S' ⟨⟨x3, x4, rfl⟩, kp, cur, hc, hcl, hcs⟩
    have hp' := kp _ _ (fun z => hFp z.symm) hpp
    have hb' := kp _ _ (fun z => hFb z.symm) hb2
    refine ⟨⟨lstAt_of hp', lstAt_of hb'⟩, ?_⟩
    have hsl := inn_len sg ps hlen 1
    cases hx : (zipT ((spots 1 sg).map fun (k : Nat) => T.int (k : Int)) qs)[i]? with
    | none =>
      have hz := zipT_none hx
      rw [List.length_map] at hz
      simp only []
      rw [hv2]
      try simp only [tsNx, tsSeq, tsBrk, tsCt, tsDrop, tsRet, tsRetN, tsIf, tsAsg, tgN, tgsNil, tgsCons, tgTup, tgSub, tsFor, tsWhile, tiSeq, tiRng1, tiRng2, tiZip, tb, tv, tc, tac, tan, ttup, tlst, tq, tand, tor, tnot, tife, tandV, torV, tnotV, tneg, tsl, tno, tpt, tcall, tbi, tml, tml0, tmj, tisi, tlRev, tlRng1, tdisp, tps, tlc_eq, tiEnumS, tixK, tiItems, tiVals, ttYes, bt1, btN, setsT, wipeT, endT, List.getElem?_cons_zero, List.getElem?_cons_succ, List.set_cons_zero, List.set_cons_succ]
      refine st_tupl hc ?_
      have e1 : (spots 1 sg).drop i = [] := List.drop_eq_nil_of_le (by omega)
      rw [e1] at hcs
      have hcs : cur = T.str w :: putIn sg ps qs := by
        cases e : qs.drop i <;> (rw [e] at hcs; exact hcs)
      rw [hcs]
      refine q S' fun a o h => ?_
      exact kp a o (fun z => by rw [z, hF] at h; cases h) (x12 a o h)
    | some x =>
      obtain ⟨y, z, hy, hz, rfl⟩ := zipT_some hx
      rw [List.getElem?_map] at hy
      cases hk : (spots 1 sg)[i]? with
      | none => rw [hk] at hy; cases hy
      | some k =>
        rw [hk] at hy
        cases hy
        have hkm := spots_in sg 1 k (List.mem_of_getElem? hk)
        try simp only [tsNx, tsSeq, tsBrk, tsCt, tsDrop, tsRet, tsRetN, tsIf, tsAsg, tgN, tgsNil, tgsCons, tgTup, tgSub, tsFor, tsWhile, tiSeq, tiRng1, tiRng2, tiZip, tb, tv, tc, tac, tan, ttup, tlst, tq, tand, tor, tnot, tife, tandV, torV, tnotV, tneg, tsl, tno, tpt, tcall, tbi, tml, tml0, tmj, tisi, tlRev, tlRng1, tdisp, tps, tlc_eq, tiEnumS, tixK, tiItems, tiVals, ttYes, bt1, btN, setsT, wipeT, endT, List.getElem?_cons_zero, List.getElem?_cons_succ, List.set_cons_zero, List.set_cons_succ]
        refine ⟨rfl, ?_⟩
        refine st_set hc (ixN_ok (i := (k : Int)) (Int.natCast_nonneg k) (by omega)) rfl fun S3 u => ?_
        refine ⟨⟨_, _, rfl⟩, fun a o na h => u.get na (kp a o na h), _, u.at_, by rw [List.length_set, hcl], ?_⟩
        rw [← hcs]
        have d1 : (spots 1 sg).drop i = k :: (spots 1 sg).drop (i + 1) := by
          obtain ⟨h1, h2⟩ := List.getElem?_eq_some_iff.mp hk
          rw [← h2]; exact List.drop_eq_getElem_cons h1
        have d2 : qs.drop i = z :: qs.drop (i + 1) := by
          obtain ⟨h1, h2⟩ := List.getElem?_eq_some_iff.mp hz
          rw [← h2]; exact List.drop_eq_getElem_cons h1
        rw [d1, d2]
        rfl
end LAW
set_option Elab.async false
set_option linter.all false
set_option maxRecDepth 100000
set_option maxHeartbeats 1000000
/-! D7: more rounds, as the program and as the law ask it. -/
namespace LAW
open PySem PySem.Spec PyProof.Rows L2 TL
theorem moreT_str {v : Int} {x : Str} : moreT v (.str x) = .str x := by unfold moreT; rfl
theorem moreT_int {v : Int} {x : Int} : moreT v (.int x) = .int x := by unfold moreT; rfl
theorem moreTs_map (v : Int) : ∀ xs : List T, moreTs v xs = xs.map (moreT v)
  | [] => moreTs_nil
  | x :: xs => by rw [moreTs_cons, moreTs_map v xs]; rfl
/-- no rounds, no change -/
theorem fixR_ne {v : Int} {w : Str} {xs : List T} (h : w ≠ "rounds") : fixR v (.str w :: xs) = .tup (.str w :: xs) := by
  unfold fixR
  split
  · rename_i w' a p q r e
    simp only [List.cons.injEq, T.str.injEq] at e
    obtain ⟨rfl, rfl⟩ := e
    rw [if_neg h]
  · rfl
theorem fixR_r {v a : Int} {p q r : T} : fixR v [.str "rounds", .int a, p, q, r] = .tup [.str "rounds", .int (min 30 (a + v)), p, q, r] := by
  show (if (Str.ofString "rounds") = Str.ofString "rounds" then T.tup [.str "rounds", .int (min 30 (a + v)), p, q, r] else T.tup [.str "rounds", .int a, p, q, r]) = _
  rw [if_pos rfl]
mutual
theorem more_nr (v : Int) : ∀ x : T, Nr x → moreT v x = x
  | .non, _ => by unfold moreT; rfl
  | .bl _, _ => by unfold moreT; rfl
  | .int _, _ => by unfold moreT; rfl
  | .str _, _ => by unfold moreT; rfl
  | .fl _, _ => by unfold moreT; rfl
  | .adr _, _ => by unfold moreT; rfl
  | .tup xs, h => by
    rw [nr_tup] at h
    rw [moreT_tup, mores_nr v xs h.2]
    cases xs with
    | nil => rfl
    | cons y ys =>
      cases y with
      | str w => exact fixR_ne h.1.1
      | _ => rfl
theorem mores_nr (v : Int) : ∀ xs : List T, Nrs xs → moreTs v xs = xs
  | [], _ => moreTs_nil
  | x :: xs, h => by
    rw [nrs_cons] at h
    rw [moreTs_cons, more_nr v x h.1, mores_nr v xs h.2]
end
theorem Parts.len {W P : T → Prop} : ∀ {sg : List Bool} {ps : List T}, Parts W P sg ps → sg.length = ps.length
  | [], [], _ => rfl
  | true :: sg, p :: ps, h => congrArg (· + 1) (Parts.len (W := W) (P := P) (sg := sg) (ps := ps) h.2)
  | false :: sg, p :: ps, h => congrArg (· + 1) (Parts.len (W := W) (P := P) (sg := sg) (ps := ps) h.2)
  | [], _ :: _, h => h.elim
  | true :: _, [], h => h.elim
  | false :: _, [], h => h.elim
theorem Parts.inn {W P : T → Prop} : ∀ {sg : List Bool} {ps : List T}, Parts W P sg ps → ∀ x ∈ LAW.inn sg ps, W x
  | [], [], _, x, hx => by cases hx
  | true :: sg, p :: ps, h, x, hx => by
    rcases List.mem_cons.mp (show x ∈ p :: LAW.inn sg ps from hx) with z | z
    · rw [z]; exact h.1
    · exact Parts.inn (W := W) (P := P) (sg := sg) (ps := ps) h.2 x z
  | false :: sg, p :: ps, h, x, hx => Parts.inn (W := W) (P := P) (sg := sg) (ps := ps) h.2 x hx
  | [], _ :: _, h, _, _ => h.elim
  | true :: _, [], h, _, _ => h.elim
  | false :: _, [], h, _, _ => h.elim
theorem Parts.more {W : T → Prop} (v : Int) : ∀ {sg : List Bool} {ps : List T}, Parts W Pb sg ps → putIn sg ps ((LAW.inn sg ps).map (moreT v)) = moreTs v ps
  | [], [], _ => moreTs_nil.symm
  | true :: sg, p :: ps, h => by
    rw [moreTs_cons]
    exact congrArg (moreT v p :: ·) (Parts.more (W := W) v (sg := sg) (ps := ps) h.2)
  | false :: sg, p :: ps, h => by
    rw [moreTs_cons, more_nr v p h.1.nr]
    exact congrArg (p :: ·) (Parts.more (W := W) v (sg := sg) (ps := ps) h.2)
  | [], _ :: _, h => h.elim
  | true :: _, [], h => h.elim
  | false :: _, [], h => h.elim
theorem signs_rounds : signs "rounds" = some [false, true, false, true] := by decide +kernel
theorem cut2 {x y : T} {xs : List T} : cutT (x :: y :: xs) (some 2) none = xs := by
  have h1 : HT.sIx (x :: y :: xs).length 0 (some 2) = 2 := by unfold HT.sIx; simp
  have h2 : HT.sIx (x :: y :: xs).length (x :: y :: xs).length none = xs.length + 2 := by unfold HT.sIx; simp
  unfold cutT
  rw [h1, h2]
  simp
theorem five {xs : List T} (h : 4 = xs.length) : ∃ a b c d, xs = [a, b, c, d] := by
  match xs, h with
  | [a, b, c, d], _ => exact ⟨a, b, c, d, rfl⟩
theorem min30 (x : Int) : (if x < 30 then x else 30) = min 30 x := by
  split <;> omega
theorem vc_rounds (n : Nat) (ts : List T) (S : Sto) (Q : T → Sto → Prop) (hl : ts.length = 2) (h : spRounds (n + 1) ts S Q) : t_more_rounds n (endT Q) (startT N_more_rounds.length ts) S := by
  obtain ⟨t, v, rfl, ⟨w, sg, ps, rfl, hw, hp, hr⟩, q⟩ := h
  rw [show startT N_more_rounds.length [T.tup (.str w :: ps), T.int v] = [some (T.tup (.str w :: ps)), some (T.int v), none, none] from rfl]
  have hlen := hp.len
  have h5 := sg_len hw
  unfold t_more_rounds
  refine seq_cut fun v1 hv1 => ?_
  try simp only [tsNx, tsSeq, tsBrk, tsCt, tsDrop, tsRet, tsRetN, tsIf, tsAsg, tgN, tgsNil, tgsCons, tgTup, tgSub, tsFor, tsWhile, tiSeq, tiRng1, tiRng2, tiZip, tb, tv, tc, tac, tan, ttup, tlst, tq, tand, tor, tnot, tife, tandV, torV, tnotV, tneg, tsl, tno, tpt, tcall, tbi, tml, tml0, tmj, tisi, tlRev, tlRng1, tdisp, tps, tlc_eq, tiEnumS, tixK, tiItems, tiVals, ttYes, bt1, btN, setsT, wipeT, endT, List.getElem?_cons_zero, List.getElem?_cons_succ, List.set_cons_zero, List.set_cons_succ]
  refine ⟨rfl, w, sg, ps, rfl, hw, hlen, fun p S1 x1 hpn hpp => ?_⟩
  simp only [lstAt_of hpp]
  refine lc_ex (fun i acc => i ≤ (inn sg ps).length ∧ acc = ((inn sg ps).take i).map (moreT v)) ⟨Nat.zero_le _, rfl⟩ fun i acc S' hA ex => ⟨lstAt_of (ex _ _ hpp), ?_⟩
  obtain ⟨hi, rfl⟩ := hA
  have hil := inn_len sg ps hlen 1
  have hsl := spots_le sg 1
  cases hx : (inn sg ps)[i]? with
  | some x =>
    simp only []
    refine ⟨_, rfl, Nat.lt_of_lt_of_le (show _ < 100 by rw [List.length_map, List.length_take]; omega) (by decide), fun Rt Rf h1 h2 => ?_⟩
    try simp only [tsNx, tsSeq, tsBrk, tsCt, tsDrop, tsRet, tsRetN, tsIf, tsAsg, tgN, tgsNil, tgsCons, tgTup, tgSub, tsFor, tsWhile, tiSeq, tiRng1, tiRng2, tiZip, tb, tv, tc, tac, tan, ttup, tlst, tq, tand, tor, tnot, tife, tandV, torV, tnotV, tneg, tsl, tno, tpt, tcall, tbi, tml, tml0, tmj, tisi, tlRev, tlRng1, tdisp, tps, tlc_eq, tiEnumS, tixK, tiItems, tiVals, ttYes, bt1, btN, setsT, wipeT, endT, List.getElem?_cons_zero, List.getElem?_cons_succ, List.set_cons_zero, List.set_cons_succ]
    refine ⟨rfl, x, v, rfl, hp.inn x (List.mem_of_getElem? hx), fun S2 x2 => h1 _ S2 x2 ⟨(List.getElem?_eq_some_iff.mp hx).1, ?_⟩⟩
    rw [take_snoc hx, List.map_append]; rfl
  | none =>
    have := List.getElem?_eq_none_iff.mp hx
    simp only []
    intro D hD hS
    rw [List.take_of_length_le (by omega)] at hS
    refine ⟨rfl, w, sg, ps, _, D, rfl, hw, hlen, hS, by rw [List.length_map], fun S2 x2 => ?_⟩
    have x02 := (x1.trans ex).trans x2
    rw [hp.more v]
    rw [hv1]
    refine seq_cut fun v2 hv2 => ?_
    try simp only [tsNx, tsSeq, tsBrk, tsCt, tsDrop, tsRet, tsRetN, tsIf, tsAsg, tgN, tgsNil, tgsCons, tgTup, tgSub, tsFor, tsWhile, tiSeq, tiRng1, tiRng2, tiZip, tb, tv, tc, tac, tan, ttup, tlst, tq, tand, tor, tnot, tife, tandV, torV, tnotV, tneg, tsl, tno, tpt, tcall, tbi, tml, tml0, tmj, tisi, tlRev, tlRng1, tdisp, tps, tlc_eq, tiEnumS, tixK, tiItems, tiVals, ttYes, bt1, btN, setsT, wipeT, endT, List.getElem?_cons_zero, List.getElem?_cons_succ, List.set_cons_zero, List.set_cons_succ]
    have eM : moreT v (.tup (.str w :: ps)) = fixR v (.str w :: moreTs v ps) := by rw [moreT_tup, moreTs_cons, moreT_str]
    rw [eM] at q
    by_cases hwr : w = "rounds"
    · obtain ⟨a, r, ha0, ha, rfl⟩ := hr hwr
      subst hwr
      rw [signs_rounds] at hw
      cases hw
      obtain ⟨a', b, c, d, e⟩ := five hlen
      cases e
      simp only [moreTs_cons, moreTs_nil, moreT_int] at q ⊢
      rw [fixR_r] at q
      simp only [ev_t0, ev_t1, ev_eqs, eqG_f, beq_self_eq_true, kq, oMin2]
      refine st_add ?_
      refine ⟨z4000 (by simp), ?_⟩
      refine st_slt ?_
      rw [cut2]
      refine st_addt (z4000 (by simp)) ?_
      rw [min30]
      exact q S2 x02
    · rw [fixR_ne hwr] at q
      have hb : (w == (Str.ofString "rounds")) = false := beq_eq_false_iff_ne.mpr hwr
      simp only [ev_t0, ev_eqs, eqG_f, hb, kq]
      rw [hv2]
      try simp only [tsNx, tsSeq, tsBrk, tsCt, tsDrop, tsRet, tsRetN, tsIf, tsAsg, tgN, tgsNil, tgsCons, tgTup, tgSub, tsFor, tsWhile, tiSeq, tiRng1, tiRng2, tiZip, tb, tv, tc, tac, tan, ttup, tlst, tq, tand, tor, tnot, tife, tandV, torV, tnotV, tneg, tsl, tno, tpt, tcall, tbi, tml, tml0, tmj, tisi, tlRev, tlRng1, tdisp, tps, tlc_eq, tiEnumS, tixK, tiItems, tiVals, ttYes, bt1, btN, setsT, wipeT, endT, List.getElem?_cons_zero, List.getElem?_cons_succ, List.set_cons_zero, List.set_cons_succ]
      exact q S2 x02
end LAW
set_option Elab.async false
set_option linter.all false
set_option maxRecDepth 100000
set_option maxHeartbeats 1000000
/-! D8: more rounds, as the law asks it. -/
namespace LAW
open PySem PySem.Spec PyProof.Rows L2 TL
theorem moreT_non {v : Int} : moreT v .non = .non := by unfold moreT; rfl
theorem moreT_bl {v : Int} {x : Bool} : moreT v (.bl x) = .bl x := by unfold moreT; rfl
/-- fixR answers a tuple -/
theorem fixR_tup (v : Int) (xs : List T) : ∃ ys, fixR v xs = .tup ys := by
  unfold fixR
  split
  · split <;> exact ⟨_, rfl⟩
  · exact ⟨_, rfl⟩
theorem fixR_len (v : Int) (xs ys : List T) (h : fixR v xs = .tup ys) : ys.length = xs.length := by
  unfold fixR at h
  split at h
  · split at h <;> (cases h; rfl)
  · cases h; rfl
theorem mk_fl {xs : List T} : Mk (.fl xs) = False := by unfold Mk; rfl
theorem mk_adr {xs : Addr} : Mk (.adr xs) = False := by unfold Mk; rfl
theorem purs_tup5 {w : Str} {a : Int} {p q r : T} : T.purs [.str w, .int a, p, q, r] = T.purs [p, q, r] := by
  rw [purs_cons, purs_cons, pur_str, pur_int]; rfl
theorem fixR_pur (v : Int) (xs : List T) (h : T.purs xs = true) : (fixR v xs).pur = true := by
  unfold fixR
  split
  · rw [purs_tup5] at h
    split <;> (rw [pur_tup, purs_tup5]; exact h)
  · rw [pur_tup]; exact h
mutual
theorem more_pur (v : Int) : ∀ x : T, Mk x → (moreT v x).pur = true
  | .non, _ => by rw [moreT_non]; unfold T.pur; rfl
  | .bl _, _ => by rw [moreT_bl]; unfold T.pur; rfl
  | .int _, _ => by rw [moreT_int, pur_int]
  | .str _, _ => by rw [moreT_str, pur_str]
  | .fl _, h => by rw [mk_fl] at h; exact h.elim
  | .adr _, h => by rw [mk_adr] at h; exact h.elim
  | .tup xs, h => by
    rw [mk_tup] at h
    rw [moreT_tup]
    exact fixR_pur v _ (mores_pur v xs h.2.2)
theorem mores_pur (v : Int) : ∀ xs : List T, Mks xs → T.purs (moreTs v xs) = true
  | [], _ => by rw [moreTs_nil, purs_nil]
  | x :: xs, h => by
    rw [mks_cons] at h
    rw [moreTs_cons, purs_cons, more_pur v x h.1, mores_pur v xs h.2]; rfl
end
/-- the head is 'rounds' -/
def hr : List T → Bool | .str w :: _ => w == "rounds" | _ => false
theorem cut_to1 (xs : List T) : cutT xs none (some 1) = xs.take 1 := by
  have h1 : HT.sIx xs.length 0 none = 0 := rfl
  have h2 : HT.sIx xs.length xs.length (some 1) = min 1 xs.length := by unfold HT.sIx; simp
  unfold cutT
  rw [h1, h2, List.drop_zero, Nat.sub_zero]
  cases xs with
  | nil => rfl
  | cons x xs => simp
theorem eq_hr (xs : List T) : eqT (.tup (xs.take 1)) (.tup [.str "rounds"]) = hr xs := by
  cases xs with
  | nil => rw [List.take_nil, eqT_tup]; exact eqTs_nc
  | cons x xs =>
    rw [show (x :: xs).take 1 = [x] from rfl, eqT_tup, eqTs_cons, eqTs_nil, Bool.and_true]
    cases x with
    | str w => rw [eqT_str]; rfl
    | _ => first | rfl | (unfold eqT; rfl)
theorem tup_not_str (v : Int) (x : T) (w : Str) (h : moreT v x = .str w) : x = .str w := by
  cases x with
  | str z => rw [moreT_str] at h; exact h
  | non => rw [moreT_non] at h; cases h
  | bl b => rw [moreT_bl] at h; cases h
  | int b => rw [moreT_int] at h; cases h
  | tup xs => rw [moreT_tup] at h; obtain ⟨ys, e⟩ := fixR_tup v (moreTs v xs); rw [e] at h; cases h
  | fl xs => unfold moreT at h; cases h
  | adr xs => unfold moreT at h; cases h
theorem rounds_or (v : Int) (xs : List T) (h : rhd xs) :
    (∃ a p q r, moreTs v xs = [.str "rounds", .int a, p, q, r]) ∨ (hr (moreTs v xs) = true → decide ((moreTs v xs).length = 5) = false) ∧ fixR v (moreTs v xs) = .tup (moreTs v xs) := by
  by_cases h1 : hr (moreTs v xs) = true
  · cases xs with
    | nil => rw [moreTs_nil] at h1; cases h1
    | cons x xs =>
      rw [moreTs_cons] at h1 ⊢
      cases hx : moreT v x with
      | str w =>
        have ex := tup_not_str v x w hx
        subst ex
        rw [hx] at h1
        have hw : w = "rounds" := by simpa [hr] using h1
        subst hw
        by_cases h5 : xs.length = 4
        · obtain ⟨a, b, c, d, e⟩ := five h5.symm
          subst e
          obtain ⟨i, rfl⟩ := h rfl
          left
          exact ⟨i, moreT v b, moreT v c, moreT v d, by simp only [moreTs_cons, moreTs_nil, moreT_int]⟩
        · right
          have hl : (moreTs v xs).length = xs.length := by rw [moreTs_map, List.length_map]
          refine ⟨fun _ => decide_eq_false (by rw [List.length_cons, hl]; omega), ?_⟩
          unfold fixR
          split
          · rename_i e
            simp only [List.cons.injEq] at e
            have := congrArg List.length e.2
            rw [hl] at this
            simp at this
            omega
          · rfl
      | _ => rw [hx] at h1; cases h1
  · right
    refine ⟨fun z => (h1 z).elim, ?_⟩
    unfold fixR
    split
    · rename_i w a p q r e
      rw [e] at h1
      rw [if_neg (fun z => h1 (by rw [z]; rfl))]
      exact e ▸ rfl
    · rfl
theorem vc_lmore (n : Nat) (ts : List T) (S : Sto) (Q : T → Sto → Prop) (hl : ts.length = 2) (h : spLmore (n + 1) ts S Q) : t_Lmore n (endT Q) (startT N_Lmore.length ts) S := by
  obtain ⟨t, v, rfl, hm, hd, q⟩ := h
  rw [show startT N_Lmore.length [t, T.int v] = [some t, some (T.int v), none, none] from rfl]
  unfold t_Lmore
  refine seq_cut fun v1 hv1 => ?_
  try simp only [tsNx, tsSeq, tsBrk, tsCt, tsDrop, tsRet, tsRetN, tsIf, tsAsg, tgN, tgsNil, tgsCons, tgTup, tgSub, tsFor, tsWhile, tiSeq, tiRng1, tiRng2, tiZip, tb, tv, tc, tac, tan, ttup, tlst, tq, tand, tor, tnot, tife, tandV, torV, tnotV, tneg, tsl, tno, tpt, tcall, tbi, tml, tml0, tmj, tisi, tlRev, tlRng1, tdisp, tps, tlc_eq, tiEnumS, tixK, tiItems, tiVals, ttYes, bt1, btN, setsT, wipeT, endT, List.getElem?_cons_zero, List.getElem?_cons_succ, List.set_cons_zero, List.set_cons_succ]
  cases t with
  | non => rw [moreT_non] at q; exact q S (fun _ _ e => e)
  | bl b => rw [moreT_bl] at q; exact q S (fun _ _ e => e)
  | int b => rw [moreT_int] at q; exact q S (fun _ _ e => e)
  | str b => rw [moreT_str] at q; exact q S (fun _ _ e => e)
  | fl xs => rw [mk_fl] at hm; exact hm.elim
  | adr xs => rw [mk_adr] at hm; exact hm.elim
  | tup xs =>
    rw [mk_tup] at hm
    obtain ⟨hz, hrd, hms⟩ := hm
    simp only [tyT, isB, kq]
    rw [depth_tup] at hd
    show v1 _ _ _
    rw [hv1]
    refine seq_cut fun v2 hv2 => ?_
    try simp only [tsNx, tsSeq, tsBrk, tsCt, tsDrop, tsRet, tsRetN, tsIf, tsAsg, tgN, tgsNil, tgsCons, tgTup, tgSub, tsFor, tsWhile, tiSeq, tiRng1, tiRng2, tiZip, tb, tv, tc, tac, tan, ttup, tlst, tq, tand, tor, tnot, tife, tandV, torV, tnotV, tneg, tsl, tno, tpt, tcall, tbi, tml, tml0, tmj, tisi, tlRev, tlRng1, tdisp, tps, tlc_eq, tiEnumS, tixK, tiItems, tiVals, ttYes, bt1, btN, setsT, wipeT, endT, List.getElem?_cons_zero, List.getElem?_cons_succ, List.set_cons_zero, List.set_cons_succ]
    refine lc_ex (fun i acc => i ≤ xs.length ∧ acc = (xs.take i).map (moreT v)) ⟨Nat.zero_le _, rfl⟩ fun i acc S' hA ex => ⟨trivial, ?_⟩
    obtain ⟨hi, rfl⟩ := hA
    cases hx : xs[i]? with
    | some x =>
      simp only []
      have hlt := (List.getElem?_eq_some_iff.mp hx).1
      refine ⟨_, rfl, Nat.lt_of_lt_of_le (show _ < 6001 by rw [List.length_map, List.length_take]; omega) (by decide), fun Rt Rf h1 h2 => ?_⟩
      try simp only [tsNx, tsSeq, tsBrk, tsCt, tsDrop, tsRet, tsRetN, tsIf, tsAsg, tgN, tgsNil, tgsCons, tgTup, tgSub, tsFor, tsWhile, tiSeq, tiRng1, tiRng2, tiZip, tb, tv, tc, tac, tan, ttup, tlst, tq, tand, tor, tnot, tife, tandV, torV, tnotV, tneg, tsl, tno, tpt, tcall, tbi, tml, tml0, tmj, tisi, tlRev, tlRng1, tdisp, tps, tlc_eq, tiEnumS, tixK, tiItems, tiVals, ttYes, bt1, btN, setsT, wipeT, endT, List.getElem?_cons_zero, List.getElem?_cons_succ, List.set_cons_zero, List.set_cons_succ]
      have hmx : Mk x := by
        have : ∀ (l : List T), Mks l → ∀ y ∈ l, Mk y := by
          intro l
          induction l with
          | nil => intro _ y hy; cases hy
          | cons z l ih =>
            intro hz y hy
            rw [mks_cons] at hz
            rcases List.mem_cons.mp hy with e | e
            · rw [e]; exact hz.1
            · exact ih hz.2 y e
        exact this xs hms x (List.mem_of_getElem? hx)
      have hdx := depth_get hx
      refine ⟨rfl, x, v, rfl, hmx, by omega, fun S2 x2 => h1 _ S2 x2 ⟨hlt, ?_⟩⟩
      rw [take_snoc hx, List.map_append]; rfl
    | none =>
      have := List.getElem?_eq_none_iff.mp hx
      simp only []
      intro D hD hS
      rw [List.take_of_length_le (by omega), ← moreTs_map] at hS
      refine st_tupl hS ?_
      rw [hv2]
      refine seq_cut fun v3 hv3 => ?_
      try simp only [tsNx, tsSeq, tsBrk, tsCt, tsDrop, tsRet, tsRetN, tsIf, tsAsg, tgN, tgsNil, tgsCons, tgTup, tgSub, tsFor, tsWhile, tiSeq, tiRng1, tiRng2, tiZip, tb, tv, tc, tac, tan, ttup, tlst, tq, tand, tor, tnot, tife, tandV, torV, tnotV, tneg, tsl, tno, tpt, tcall, tbi, tml, tml0, tmj, tisi, tlRev, tlRng1, tdisp, tps, tlc_eq, tiEnumS, tixK, tiItems, tiVals, ttYes, bt1, btN, setsT, wipeT, endT, List.getElem?_cons_zero, List.getElem?_cons_succ, List.set_cons_zero, List.set_cons_succ]
      have hp := mores_pur v xs hms
      rw [moreT_tup] at q
      refine st_slt ?_
      rw [cut_to1]
      refine ⟨z4000 (by simp), ?_⟩
      refine st_eq (by rw [pur_tup]; cases hq : moreTs v xs with
        | nil => exact purs_nil
        | cons y ys => rw [hq, purs_cons, Bool.and_eq_true] at hp; rw [show (y :: ys).take 1 = [y] from rfl, purs_cons, hp.1, purs_nil]; rfl) (by rw [pur_tup, purs_cons, pur_str, purs_nil]; rfl) (by rw [depth_tup (xs := [T.str _]), depths_cons, depth_str, depths_nil]; omega) ?_
      rw [eqG_f, eq_hr]
      rcases rounds_or v xs hrd with ⟨a, p, r, s, e⟩ | ⟨e1, e2⟩
      · rw [e, fixR_r] at q
        rw [e] at hS ⊢
        simp only [hr, beq_self_eq_true, kq, ev_lent, List.length_cons, List.length_nil, ev_eqi, eqG_f]
        have e5 : (((0 + 1 + 1 + 1 + 1 + 1 : Nat) : Int) == 5) = true := by decide
        simp only [e5, ev_t1, oMin2]
        refine st_add ?_
        refine ⟨z4000 (by simp), ?_⟩
        refine st_slt ?_
        rw [cut2]
        refine st_addt (z4000 (by simp)) ?_
        rw [min30]
        exact q S' ex
      · rw [e2] at q
        have fin : v3 (endT Q) [some (T.tup xs), some (T.int v), some (T.tup (moreTs v xs)), none] S' := by
          rw [hv3]
          try simp only [tsNx, tsSeq, tsBrk, tsCt, tsDrop, tsRet, tsRetN, tsIf, tsAsg, tgN, tgsNil, tgsCons, tgTup, tgSub, tsFor, tsWhile, tiSeq, tiRng1, tiRng2, tiZip, tb, tv, tc, tac, tan, ttup, tlst, tq, tand, tor, tnot, tife, tandV, torV, tnotV, tneg, tsl, tno, tpt, tcall, tbi, tml, tml0, tmj, tisi, tlRev, tlRng1, tdisp, tps, tlc_eq, tiEnumS, tixK, tiItems, tiVals, ttYes, bt1, btN, setsT, wipeT, endT, List.getElem?_cons_zero, List.getElem?_cons_succ, List.set_cons_zero, List.set_cons_succ]
          exact q S' ex
        cases hh : hr (moreTs v xs) with
        | false =>
          simp only [kq]
          exact fin
        | true =>
          have e5 := e1 hh
          simp only [kq, ev_lent, ev_eqi, eqG_f]
          have e6 : ((((moreTs v xs).length : Nat) : Int) == 5) = false := by
            rw [beq_eq_false_iff_ne]
            intro z
            exact of_decide_eq_false e5 (by omega)
          simp only [e6]
          exact fin
end LAW
set_option Elab.async false
set_option linter.all false
set_option maxRecDepth 100000
set_option maxHeartbeats 1000000
/-! D9: terms: facts in plain Lean. -/
namespace LAW
open PySem PySem.Spec PyProof.Rows L2 TL
theorem sz_pos : ∀ x : T, 1 ≤ sz x
  | .tup xs => by rw [sz_tup]; omega
  | .non => by unfold sz; decide
  | .bl _ => by rw [sz_bl]; decide
  | .int _ => by rw [sz_int]; decide
  | .str _ => by rw [sz_str]; decide
  | .fl _ => by unfold sz; decide
  | .adr _ => by unfold sz; decide
theorem szs_len : ∀ xs : List T, xs.length ≤ szs xs
  | [] => Nat.zero_le _
  | x :: xs => by rw [szs_cons, List.length_cons]; have := sz_pos x; have := szs_len xs; omega
theorem hd_rhd {xs : List T} (h : hd xs) : rhd xs := by
  unfold rhd
  split
  · exact fun z => (h.1 z).elim
  · trivial
theorem mk_non : Mk .non = True := by unfold Mk; rfl
theorem mk_bl {b : Bool} : Mk (.bl b) = True := by unfold Mk; rfl
theorem mk_int {b : Int} : Mk (.int b) = True := by unfold Mk; rfl
theorem mk_str {b : Str} : Mk (.str b) = True := by unfold Mk; rfl
theorem lit_fl {xs : List T} : Lit (.fl xs) = False := by conv => lhs; unfold Lit
theorem lit_adr {xs : Addr} : Lit (.adr xs) = False := by conv => lhs; unfold Lit
mutual
theorem nr_mk : ∀ x : T, Nr x → Lit x → sz x ≤ 6000 → Mk x
  | .non, _, _, _ => by rw [mk_non]; trivial
  | .bl _, _, _, _ => by rw [mk_bl]; trivial
  | .int _, _, _, _ => by rw [mk_int]; trivial
  | .str _, _, _, _ => by rw [mk_str]; trivial
  | .fl _, _, h, _ => by rw [lit_fl] at h; exact h.elim
  | .adr _, _, h, _ => by rw [lit_adr] at h; exact h.elim
  | .tup xs, h, l, s => by
    rw [nr_tup] at h
    rw [lit_tup] at l
    rw [sz_tup] at s
    rw [mk_tup]
    have := szs_len xs
    exact ⟨by omega, hd_rhd h.1, nrs_mks xs h.2 l (by omega)⟩
theorem nrs_mks : ∀ xs : List T, Nrs xs → Lits xs → szs xs ≤ 6000 → Mks xs
  | [], _, _, _ => by rw [mks_nil]; trivial
  | x :: xs, h, l, s => by
    rw [nrs_cons] at h
    rw [lits_cons] at l
    rw [szs_cons] at s
    rw [mks_cons]
    exact ⟨nr_mk x h.1 l.1 (by omega), nrs_mks xs h.2 l.2 (by omega)⟩
end
theorem Pb.walk {x : T} (h : Pb x) : Mk x := nr_mk x h.nr h.lit (by have := h.sz; omega)
theorem Parts.all {W P R : T → Prop} (hW : ∀ x, W x → R x) (hP : ∀ x, P x → R x) : ∀ {sg : List Bool} {ps : List T}, Parts W P sg ps → ∀ x ∈ ps, R x
  | [], [], _, x, hx => by cases hx
  | true :: sg, p :: ps, h, x, hx => by
    rcases List.mem_cons.mp hx with z | z
    · rw [z]; exact hW _ h.1
    · exact Parts.all hW hP (sg := sg) (ps := ps) h.2 x z
  | false :: sg, p :: ps, h, x, hx => by
    rcases List.mem_cons.mp hx with z | z
    · rw [z]; exact hP _ h.1
    · exact Parts.all hW hP (sg := sg) (ps := ps) h.2 x z
  | [], _ :: _, h, _, _ => h.elim
  | true :: _, [], h, _, _ => h.elim
  | false :: _, [], h, _, _ => h.elim
theorem mks_all : ∀ {xs : List T}, (∀ x ∈ xs, Mk x) → Mks xs
  | [], _ => by rw [mks_nil]; trivial
  | x :: xs, h => by rw [mks_cons]; exact ⟨h x List.mem_cons_self, mks_all fun y hy => h y (List.mem_cons_of_mem _ hy)⟩
theorem lits_all : ∀ {xs : List T}, (∀ x ∈ xs, Lit x) → Lits xs
  | [], _ => by rw [lits_nil]; trivial
  | x :: xs, h => by rw [lits_cons]; exact ⟨h x List.mem_cons_self, lits_all fun y hy => h y (List.mem_cons_of_mem _ hy)⟩
theorem depths_all {n : Nat} : ∀ {xs : List T}, (∀ x ∈ xs, x.depth ≤ n) → T.depths xs ≤ n
  | [], _ => by rw [depths_nil]; exact Nat.zero_le _
  | x :: xs, h => by rw [depths_cons]; exact Nat.max_le.mpr ⟨h x List.mem_cons_self, depths_all fun y hy => h y (List.mem_cons_of_mem _ hy)⟩
theorem forms_low : ∀ r ∈ formsL, r.1.length ≤ 9 ∧ ∀ c ∈ r.1.cps.toList, 97 ≤ c ∧ c ≤ 122 := by decide +kernel
theorem signs_low {w : Str} {sg : List Bool} (h : signs w = some sg) : low9 w := by
  unfold signs formOf at h
  cases e2 : formsL.find? fun r => decide (r.1 = w) with
  | none => rw [e2] at h; cases h
  | some r =>
    have h1 := forms_low r (List.mem_of_find?_eq_some e2)
    have h2 : r.1 = w := by simpa using List.find?_some e2
    rw [h2] at h1; exact h1
theorem WF.mk : ∀ (n : Nat) (t : T), WF n t → Mk t
  | 0, _, h => h.elim
  | n + 1, t, h => by
    obtain ⟨w, sg, ps, rfl, hw, hp, hr⟩ := h
    have h5 := sg_len hw
    have hl := hp.len
    rw [mk_tup, mks_cons, mk_str]
    refine ⟨by rw [List.length_cons]; omega, ?_, trivial, mks_all (hp.all (fun x => WF.mk n x) fun x hx => hx.walk)⟩
    unfold rhd
    split
    · rename_i w' b p q r e
      intro z
      simp only [List.cons.injEq, T.str.injEq] at e
      obtain ⟨rfl, rfl⟩ := e
      obtain ⟨a, r', _, _, e⟩ := hr z
      simp only [List.cons.injEq] at e
      exact ⟨a, e.1⟩
    · trivial
theorem WF.lit : ∀ (n : Nat) (t : T), WF n t → Lit t
  | 0, _, h => h.elim
  | n + 1, t, h => by
    obtain ⟨w, sg, ps, rfl, hw, hp, hr⟩ := h
    rw [lit_tup, lits_cons, lit_str]
    exact ⟨signs_low hw, lits_all (hp.all (fun x => WF.lit n x) fun x hx => hx.lit)⟩
theorem WF.dep : ∀ (n : Nat) (t : T), WF n t → t.depth ≤ n + 30
  | 0, _, h => h.elim
  | n + 1, t, h => by
    obtain ⟨w, sg, ps, rfl, hw, hp, hr⟩ := h
    rw [depth_tup, depths_cons, depth_str]
    have := depths_all (n := n + 30) (hp.all (fun x => WF.dep n x) fun x hx => by have := hx.dp; omega)
    omega
theorem Parts.mono {W W' P : T → Prop} (h : ∀ x, W x → W' x) : ∀ {sg : List Bool} {ps : List T}, Parts W P sg ps → Parts W' P sg ps
  | [], [], _ => trivial
  | true :: sg, p :: ps, q => ⟨h _ q.1, Parts.mono h (sg := sg) (ps := ps) q.2⟩
  | false :: sg, p :: ps, q => ⟨q.1, Parts.mono h (sg := sg) (ps := ps) q.2⟩
  | [], _ :: _, h => h.elim
  | true :: _, [], h => h.elim
  | false :: _, [], h => h.elim
theorem WF.up : ∀ (n : Nat) (t : T), WF n t → WF (n + 1) t
  | 0, _, h => h.elim
  | n + 1, t, h => by
    obtain ⟨w, sg, ps, rfl, hw, hp, hr⟩ := h
    exact ⟨w, sg, ps, rfl, hw, hp.mono (WF.up n), hr⟩
theorem WF.mono {n m : Nat} {t : T} (h : WF n t) (hm : n ≤ m) : WF m t := by
  induction hm with
  | refl => exact h
  | step _ ih => exact WF.up _ _ ih
theorem Parts.mores {W : T → Prop} {v : Int} (h : ∀ x, W x → W (moreT v x)) : ∀ {sg : List Bool} {ps : List T}, Parts W Pb sg ps → Parts W Pb sg (moreTs v ps)
  | [], [], _ => by rw [moreTs_nil]; trivial
  | true :: sg, p :: ps, q => by rw [moreTs_cons]; exact ⟨h _ q.1, Parts.mores h (sg := sg) (ps := ps) q.2⟩
  | false :: sg, p :: ps, q => by rw [moreTs_cons, more_nr v p q.1.nr]; exact ⟨q.1, Parts.mores h (sg := sg) (ps := ps) q.2⟩
  | [], _ :: _, h => h.elim
  | true :: _, [], h => h.elim
  | false :: _, [], h => h.elim
theorem pb_int {a : Int} (h0 : 0 ≤ a) (h : a ≤ 1000000) : Pb (.int a) := ⟨by rw [lit_int]; exact ⟨h0, h⟩, by rw [nr_int]; trivial, by rw [sz_int]; decide, by rw [depth_int]; decide⟩
/-- more rounds of a term: its form -/
theorem more_form {n : Nat} {w : Str} {sg : List Bool} {ps : List T} (v : Int) (hw : signs w = some sg) (hp : Parts (WF n) Pb sg ps) (hr : w = "rounds" → ∃ (a : Int) (r : List T), 0 ≤ a ∧ a ≤ 30 ∧ ps = .int a :: r) :
    (w ≠ "rounds" ∧ moreT v (.tup (.str w :: ps)) = .tup (.str w :: moreTs v ps)) ∨
    ∃ (a : Int) (p q r : T), w = "rounds" ∧ 0 ≤ a ∧ a ≤ 30 ∧ ps = [.int a, p, q, r] ∧ moreT v (.tup (.str w :: ps)) = .tup [.str "rounds", .int (min 30 (a + v)), moreT v p, moreT v q, moreT v r] := by
  have hl := hp.len
  rw [moreT_tup, moreTs_cons, moreT_str]
  by_cases h : w = "rounds"
  · right
    obtain ⟨a, r, h0, h30, rfl⟩ := hr h
    subst h
    rw [signs_rounds] at hw
    cases hw
    obtain ⟨a', b, c, d, e⟩ := five hl
    cases e
    refine ⟨a, b, c, d, rfl, h0, h30, rfl, ?_⟩
    simp only [moreTs_cons, moreTs_nil, moreT_int]
    exact fixR_r
  · exact .inl ⟨h, fixR_ne h⟩
theorem WF.more {v : Int} (hv : 0 ≤ v) : ∀ (n : Nat) (t : T), WF n t → WF n (moreT v t)
  | 0, _, h => h.elim
  | n + 1, t, h => by
    obtain ⟨w, sg, ps, rfl, hw, hp, hr⟩ := h
    have hm := hp.mores (WF.more hv n)
    rcases more_form v hw hp hr with ⟨h1, e⟩ | ⟨a, p, q, r, rfl, h0, h30, rfl, e⟩
    · rw [e]
      exact ⟨w, sg, _, rfl, hw, hm, fun z => (h1 z).elim⟩
    · rw [e]
      simp only [moreTs_cons, moreTs_nil, moreT_int] at hm
      rw [signs_rounds] at hw
      cases hw
      exact ⟨_, _, _, rfl, signs_rounds, ⟨pb_int (by omega) (by omega), hm.2⟩, fun _ => ⟨_, _, by omega, by omega, rfl⟩⟩
/-- more and more -/
theorem more_more : ∀ (n : Nat) (t : T), WF n t → moreT 1 (moreT 1 t) = moreT 2 t
  | 0, _, h => h.elim
  | n + 1, t, h => by
    have hall := h
    obtain ⟨w, sg, ps, rfl, hw, hp, hr⟩ := h
    have key : ∀ x ∈ ps, moreT 1 (moreT 1 x) = moreT 2 x := hp.all (fun x hx => more_more n x hx) fun x hx => by
      rw [more_nr 1 x hx.nr, more_nr 1 x hx.nr, more_nr 2 x hx.nr]
    rcases more_form 1 hw hp hr with ⟨h1, e⟩ | ⟨a, p, q, r, rfl, h0, h30, rfl, e⟩
    · rw [e, moreT_tup, moreTs_cons, moreT_str, fixR_ne h1, moreT_tup, moreTs_cons, moreT_str, fixR_ne h1]
      congr 2
      rw [moreTs_map, moreTs_map, moreTs_map, List.map_map]
      exact List.map_congr_left key
    · rw [e, moreT_tup, moreT_tup]
      simp only [moreTs_cons, moreTs_nil, moreT_int, moreT_str]
      rw [fixR_r]
      rw [show fixR 2 [T.str (Str.ofString "rounds"), T.int a, moreT 2 p, moreT 2 q, moreT 2 r] = _ from fixR_r]
      rw [key p (by simp), key q (by simp), key r (by simp)]
      have e2 : min 30 (min 30 (a + 1) + 1) = min 30 (a + 2) := by omega
      rw [e2]
end LAW
set_option Elab.async false
set_option linter.all false
set_option maxRecDepth 100000
set_option maxHeartbeats 4000000
/-! D10: terms as texts; the law's two answers are alike. -/
namespace LAW
open PySem PySem.Spec PyProof.Rows L2 TL
abbrev rl (x : T) : Nat := (reprT x).length
theorem tt_len (ts : List Str) : (tupleText ts).length ≤ piled ts + 2 := by
  unfold tupleText
  rw [strLen_append, strLen_append]
  have e1 : ((("(" : String) : Str)).length = 1 := rfl
  have e2 : (((if ts.length == 1 then ",)" else ")" : String) : Str)).length ≤ 2 := by
    cases (ts.length == 1) <;> decide
  cases ts with
  | nil =>
    have : (Str.join (", " : Str) []).length = 0 := rfl
    rw [e1, this]; rw [piled_nil]
    have : (((if ([] : List Str).length == 1 then ",)" else ")" : String) : Str)).length = 1 := rfl
    omega
  | cons t r =>
    have := join_length_add (t :: r) (by simp)
    rw [e1]
    omega
def rls : List T → Nat | [] => 0 | x :: xs => (rl x + 2) + rls xs
theorem piled_rls : ∀ xs : List T, piled (PyData.shownAll (datasT xs)) = rls xs
  | [] => by rw [datasT_nil, PyData.shownAll]; rfl
  | x :: xs => by rw [datasT_cons, PyData.shownAll, piled_cons, piled_rls xs]; rfl
theorem rl_tup (xs : List T) : rl (.tup xs) ≤ rls xs + 2 := by
  unfold rl reprT
  rw [dataT_tup, PyData.shown, ← piled_rls]
  exact tt_len _
theorem quote_is (x : Str) : reprQuote x = 34 ∨ reprQuote x = 39 := by
  unfold reprQuote
  split <;> simp
theorem chars_one : ∀ q ∈ [34, 39], ∀ k ∈ List.range 26, (Builtin.Str.reprChar q (97 + k)).length = 1 := by decide +kernel
theorem char_one {q c : Nat} (hq : q = 34 ∨ q = 39) (h : 97 ≤ c ∧ c ≤ 122) : (Builtin.Str.reprChar q c).length = 1 := by
  have := chars_one q (by rcases hq with z | z <;> simp [z]) (c - 97) (by simp; omega)
  rw [show 97 + (c - 97) = c by omega] at this; exact this
theorem fold_one (q : Nat) (hq : q = 34 ∨ q = 39) : ∀ (l : List Nat) (acc : Array Nat), (∀ c ∈ l, 97 ≤ c ∧ c ≤ 122) → (l.foldl (fun out c => out ++ (Builtin.Str.reprChar q c).toArray) acc).size = acc.size + l.length
  | [], acc, _ => rfl
  | c :: r, acc, h => by
    have ih := fold_one q hq r (acc ++ (Builtin.Str.reprChar q c).toArray) fun d hd => h d (List.mem_cons_of_mem _ hd)
    have hc := char_one hq (h c List.mem_cons_self)
    simp only [List.foldl_cons, List.length_cons]
    simp only [Array.size_append, List.size_toArray] at ih
    omega
theorem rl_low {x : Str} (h : low9 x) : rl (.str x) ≤ 11 := by
  unfold rl reprT dataT
  rw [PyData.shown]
  unfold reprText
  show ((x.cps.foldl (fun out c => out ++ (Builtin.Str.reprChar (reprQuote x) c).toArray) #[reprQuote x]).push (reprQuote x)).size ≤ _
  rw [Array.size_push, ← Array.foldl_toList, fold_one _ (quote_is x) _ _ h.2]
  have e : x.cps.toList.length = x.length := by simp [Str.length]
  have e1 : (#[reprQuote x] : Array Nat).size = 1 := rfl
  have := h.1
  omega
theorem rl_int {n : Int} (h0 : 0 ≤ n) (h : n ≤ 1000000) : rl (.int n) ≤ 11 := by
  unfold rl reprT dataT
  rw [PyData.shown]
  have : (Str.ofString (toString n)).length ≤ 11 := by
    have := int_text_length_le10 (a := n) (k := 7) (by decide) (by omega)
    rw [PySem.ofString_length]; omega
  exact this
theorem rl_bl {b : Bool} : rl (.bl b) ≤ 11 := by
  unfold rl reprT dataT
  rw [PyData.shown]
  cases b <;> decide
def shw (x : T) : Bool := (dataT x).showable
def shws (xs : List T) : Bool := PyData.showableAll (datasT xs)
theorem shw_tup {xs : List T} : shw (.tup xs) = shws xs := by unfold shw shws; rw [dataT_tup, PyData.showable]
theorem shws_cons {x : T} {xs : List T} : shws (x :: xs) = (shw x && shws xs) := by unfold shw shws; rw [datasT_cons, PyData.showableAll]
theorem shws_nil : shws [] = true := by unfold shws; rw [datasT_nil, PyData.showableAll]
theorem shw_str {x : Str} : shw (.str x) = true := by unfold shw dataT; rw [PyData.showable]
theorem shw_bl {x : Bool} : shw (.bl x) = true := by unfold shw dataT; rw [PyData.showable]
theorem shw_int {n : Int} (h0 : 0 ≤ n) (h : n ≤ 1000000) : shw (.int n) = true := by
  unfold shw dataT; rw [PyData.showable]
  have : n.natAbs.log2 < 64 := by
    rcases Nat.eq_zero_or_pos n.natAbs with z | z
    · rw [z]; decide
    · exact (Nat.log2_lt (by omega)).mpr (by omega)
  exact decide_eq_true (by omega)
theorem lit_non : Lit .non = False := by conv => lhs; unfold Lit
mutual
theorem lit_rl : ∀ x : T, Lit x → rl x + 2 ≤ 13 * sz x ∧ shw x = true ∧ x.pur = true
  | .non, h => by rw [lit_non] at h; exact h.elim
  | .bl b, _ => by have := rl_bl (b := b); rw [sz_bl]; exact ⟨by omega, shw_bl, by unfold T.pur; rfl⟩
  | .int i, h => by rw [lit_int] at h; have := rl_int h.1 h.2; rw [sz_int]; exact ⟨by omega, shw_int h.1 h.2, pur_int⟩
  | .str s, h => by rw [lit_str] at h; have := rl_low h; rw [sz_str]; exact ⟨by omega, shw_str, pur_str⟩
  | .fl _, h => by rw [lit_fl] at h; exact h.elim
  | .adr _, h => by rw [lit_adr] at h; exact h.elim
  | .tup xs, h => by
    rw [lit_tup] at h
    obtain ⟨h1, h2, h3⟩ := lits_rl xs h
    have := rl_tup xs
    rw [sz_tup]
    exact ⟨by omega, by rw [shw_tup]; exact h2, by rw [pur_tup]; exact h3⟩
theorem lits_rl : ∀ xs : List T, Lits xs → rls xs ≤ 13 * szs xs ∧ shws xs = true ∧ T.purs xs = true
  | [], _ => ⟨Nat.zero_le _, shws_nil, purs_nil⟩
  | x :: xs, h => by
    rw [lits_cons] at h
    obtain ⟨a1, a2, a3⟩ := lit_rl x h.1
    obtain ⟨b1, b2, b3⟩ := lits_rl xs h.2
    rw [szs_cons]
    refine ⟨?_, by rw [shws_cons, a2, b2]; rfl, by rw [purs_cons, a3, b3]; rfl⟩
    show rl x + 2 + rls xs ≤ _
    omega
end
/-- more rounds, as many nodes -/
theorem more_sz (v : Int) : ∀ (n : Nat) (t : T), WF n t → sz (moreT v t) = sz t
  | 0, _, h => h.elim
  | n + 1, t, h => by
    obtain ⟨w, sg, ps, rfl, hw, hp, hr⟩ := h
    have key : ∀ x ∈ ps, sz (moreT v x) = sz x := hp.all (fun x hx => more_sz v n x hx) fun x hx => by rw [more_nr v x hx.nr]
    have all : ∀ xs : List T, (∀ x ∈ xs, sz (moreT v x) = sz x) → szs (moreTs v xs) = szs xs := by
      intro xs
      induction xs with
      | nil => intro _; rw [moreTs_nil]
      | cons x xs ih => intro h; rw [moreTs_cons, szs_cons, szs_cons, h x List.mem_cons_self, ih fun y hy => h y (List.mem_cons_of_mem _ hy)]
    rcases more_form v hw hp hr with ⟨h1, e⟩ | ⟨a, p, q, r, rfl, h0, h30, rfl, e⟩
    · rw [e, sz_tup, sz_tup, szs_cons, szs_cons, all ps key]
    · rw [e]
      simp only [sz_tup, szs_cons, szs_nil, sz_str, sz_int, key p (by simp), key q (by simp), key r (by simp)]
mutual
theorem dep_T : ∀ x : T, (dataT x).depth = x.depth
  | .non => by unfold dataT; rw [PyData.depth, depth_non]
  | .bl _ => by unfold dataT; rw [PyData.depth, depth_bl]
  | .int _ => by unfold dataT; rw [PyData.depth, depth_int]
  | .str _ => by unfold dataT; rw [PyData.depth, depth_str]
  | .fl _ => by unfold dataT T.depth; rw [PyData.depth]
  | .adr _ => by unfold dataT T.depth; rw [PyData.depth]
  | .tup xs => by rw [dataT_tup, PyData.depth, depth_tup, deps_T xs]
theorem deps_T : ∀ xs : List T, PyData.depthAll (datasT xs) = T.depths xs
  | [] => by rw [datasT_nil, PyData.depthAll, depths_nil]
  | x :: xs => by rw [datasT_cons, PyData.depthAll, depths_cons, dep_T x, deps_T xs]
end
structure Fine (x : T) : Prop where
  pu : x.pur = true
  de : x.depth ≤ 60
  sh : shw x = true
  rl : rl x ≤ 16302000
theorem st_repr {xs : List T} {S : Sto} {Q : T → Sto → Prop} (f : Fine (.tup xs)) (q : Q (.str (reprT (.tup xs))) S) : oRepr [.tup xs] S Q := by
  unfold oRepr
  refine ⟨by rw [← pur_tup]; exact f.pu, f.sh, by rw [dep_T]; exact Nat.le_trans f.de (by decide), Nat.le_trans f.rl (by decide), q⟩
theorem TermOk.more {t : T} {v : Int} (hv : 0 ≤ v) (h : TermOk t) : TermOk (moreT v t) := ⟨WF.more hv _ _ h.1, by rw [more_sz v _ _ h.1]; exact h.2⟩
theorem TermOk.fine {t : T} (h : TermOk t) : Fine t := by
  obtain ⟨a, b, c⟩ := lit_rl t (WF.lit _ _ h.1)
  have := WF.dep _ _ h.1
  have := h.2
  exact ⟨c, by omega, b, by omega⟩
end LAW
set_option Elab.async false
set_option linter.all false
set_option maxRecDepth 100000
set_option maxHeartbeats 1000000
/-! D11: right. -/
namespace LAW
open PySem PySem.Spec PyProof.Rows L2 TL
theorem TermOk.tup {t : T} (h : TermOk t) : ∃ xs, t = .tup xs := by
  obtain ⟨w, sg, ps, rfl, _⟩ := h.1
  exact ⟨_, rfl⟩
theorem isB_tt : isB "tuple" "tuple" = true := by decide +kernel
theorem vc_right (n : Nat) (hn : 100 ≤ n) (ts : List T) (S : Sto) (Q : T → Sto → Prop) (hl : ts.length = 2) (h : spRight ts S Q) : t_Lright n (endT Q) (startT N_Lright.length ts) S := by
  obtain ⟨t, v, rfl, ok, hv0, hv, q⟩ := h
  rw [show startT N_Lright.length [t, T.int v] = [some t, some (T.int v), none, none, none] from rfl]
  have mo := ok.more hv0
  have fi := mo.fine
  obtain ⟨ys, ey⟩ := mo.tup
  have hdp := WF.dep _ _ ok.1
  unfold t_Lright
  refine seq_cut fun v1 hv1 => ?_
  try simp only [tsNx, tsSeq, tsBrk, tsCt, tsDrop, tsRet, tsRetN, tsIf, tsAsg, tgN, tgsNil, tgsCons, tgTup, tgSub, tsFor, tsWhile, tiSeq, tiRng1, tiRng2, tiZip, tb, tv, tc, tac, tan, ttup, tlst, tq, tand, tor, tnot, tife, tandV, torV, tnotV, tneg, tsl, tno, tpt, tcall, tbi, tml, tml0, tmj, tisi, tlRev, tlRng1, tdisp, tps, tlc, ttYes, bt1, btN, setsT, wipeT, endT, List.getElem?_cons_zero, List.getElem?_cons_succ, List.set_cons_zero, List.set_cons_succ]
  refine ⟨rfl, t, v, rfl, WF.mk _ _ ok.1, by omega, fun S1 x1 => ?_⟩
  rw [hv1]
  refine seq_cut fun v2 hv2 => for_cut fun b1 hb1 => ?_
  try simp only [tsNx, tsSeq, tsBrk, tsCt, tsDrop, tsRet, tsRetN, tsIf, tsAsg, tgN, tgsNil, tgsCons, tgTup, tgSub, tsFor, tsWhile, tiSeq, tiRng1, tiRng2, tiZip, tb, tv, tc, tac, tan, ttup, tlst, tq, tand, tor, tnot, tife, tandV, torV, tnotV, tneg, tsl, tno, tpt, tcall, tbi, tml, tml0, tmj, tisi, tlRev, tlRng1, tdisp, tps, tlc, ttYes, bt1, btN, setsT, wipeT, endT, List.getElem?_cons_zero, List.getElem?_cons_succ, List.set_cons_zero, List.set_cons_succ]
  refine ⟨by omega, by omega, fun i ρ' S' => (∃ k3 k4, ρ' = [some t, some (T.int v), some (moreT v t), k3, k4]) ∧ Ex S S', ⟨⟨_, _, rfl⟩, x1⟩, ?_⟩
  rintro i ρ' S' ⟨⟨k3, k4, rfl⟩, hx⟩
  refine ⟨trivial, ?_⟩
  cases he : (rngT 0 (2 : Int).toNat)[i]? with
  | none =>
    simp only []
    rw [hv2]
    try simp only [tsNx, tsSeq, tsBrk, tsCt, tsDrop, tsRet, tsRetN, tsIf, tsAsg, tgN, tgsNil, tgsCons, tgTup, tgSub, tsFor, tsWhile, tiSeq, tiRng1, tiRng2, tiZip, tb, tv, tc, tac, tan, ttup, tlst, tq, tand, tor, tnot, tife, tandV, torV, tnotV, tneg, tsl, tno, tpt, tcall, tbi, tml, tml0, tmj, tisi, tlRev, tlRng1, tdisp, tps, tlc, ttYes, bt1, btN, setsT, wipeT, endT, List.getElem?_cons_zero, List.getElem?_cons_succ, List.set_cons_zero, List.set_cons_succ]
    exact q S' hx
  | some y =>
    try simp only [tsNx, tsSeq, tsBrk, tsCt, tsDrop, tsRet, tsRetN, tsIf, tsAsg, tgN, tgsNil, tgsCons, tgTup, tgSub, tsFor, tsWhile, tiSeq, tiRng1, tiRng2, tiZip, tb, tv, tc, tac, tan, ttup, tlst, tq, tand, tor, tnot, tife, tandV, torV, tnotV, tneg, tsl, tno, tpt, tcall, tbi, tml, tml0, tmj, tisi, tlRev, tlRng1, tdisp, tps, tlc, ttYes, bt1, btN, setsT, wipeT, endT, List.getElem?_cons_zero, List.getElem?_cons_succ, List.set_cons_zero, List.set_cons_succ]
    rw [hb1]
    refine seq_cut fun v3 hv3 => ?_
    try simp only [tsNx, tsSeq, tsBrk, tsCt, tsDrop, tsRet, tsRetN, tsIf, tsAsg, tgN, tgsNil, tgsCons, tgTup, tgSub, tsFor, tsWhile, tiSeq, tiRng1, tiRng2, tiZip, tb, tv, tc, tac, tan, ttup, tlst, tq, tand, tor, tnot, tife, tandV, torV, tnotV, tneg, tsl, tno, tpt, tcall, tbi, tml, tml0, tmj, tisi, tlRev, tlRng1, tdisp, tps, tlc, ttYes, bt1, btN, setsT, wipeT, endT, List.getElem?_cons_zero, List.getElem?_cons_succ, List.set_cons_zero, List.set_cons_succ]
    refine ⟨rfl, t, v, rfl, WF.mono ok.1 (by omega), fun S2 x2 => ?_⟩
    rw [hv3]
    try simp only [tsNx, tsSeq, tsBrk, tsCt, tsDrop, tsRet, tsRetN, tsIf, tsAsg, tgN, tgsNil, tgsCons, tgTup, tgSub, tsFor, tsWhile, tiSeq, tiRng1, tiRng2, tiZip, tb, tv, tc, tac, tan, ttup, tlst, tq, tand, tor, tnot, tife, tandV, torV, tnotV, tneg, tsl, tno, tpt, tcall, tbi, tml, tml0, tmj, tisi, tlRev, tlRng1, tdisp, tps, tlc, ttYes, bt1, btN, setsT, wipeT, endT, List.getElem?_cons_zero, List.getElem?_cons_succ, List.set_cons_zero, List.set_cons_succ]
    rw [ey] at fi ⊢
    have ht : tyT S2 (.tup ys) = some "tuple" := rfl
    simp only [ht, isB_tt]
    try simp only [ev_t0, ev_t1, ev_t2, ev_eqs, ev_eqi, ev_intb, ev_inti, ev_add, ev_sub, ev_lt, ev_gt, ev_sl1, ev_in2, ev_lent, ev_isn, Bool.or_false, Bool.or_true, Bool.false_or, Bool.true_or, eqG_f, eqG_t, kq, Bool.not_true, Bool.not_false, if_true, if_false, ite_true, ite_false, reduceIte, s_num_num, s_num_truth, s_num_open, s_num_list, s_num_pair, s_num_either, s_num_left, s_num_right, s_num_thing, s_num_fault, s_num_worth, s_num_table, s_truth_num, s_truth_truth, s_truth_open, s_truth_list, s_truth_pair, s_truth_either, s_truth_left, s_truth_right, s_truth_thing, s_truth_fault, s_truth_worth, s_truth_table, s_open_num, s_open_truth, s_open_open, s_open_list, s_open_pair, s_open_either, s_open_left, s_open_right, s_open_thing, s_open_fault, s_open_worth, s_open_table, s_list_num, s_list_truth, s_list_open, s_list_list, s_list_pair, s_list_either, s_list_left, s_list_right, s_list_thing, s_list_fault, s_list_worth, s_list_table, s_pair_num, s_pair_truth, s_pair_open, s_pair_list, s_pair_pair, s_pair_either, s_pair_left, s_pair_right, s_pair_thing, s_pair_fault, s_pair_worth, s_pair_table, s_either_num, s_either_truth, s_either_open, s_either_list, s_either_pair, s_either_either, s_either_left, s_either_right, s_either_thing, s_either_fault, s_either_worth, s_either_table, s_left_num, s_left_truth, s_left_open, s_left_list, s_left_pair, s_left_either, s_left_left, s_left_right, s_left_thing, s_left_fault, s_left_worth, s_left_table, s_right_num, s_right_truth, s_right_open, s_right_list, s_right_pair, s_right_either, s_right_left, s_right_right, s_right_thing, s_right_fault, s_right_worth, s_right_table, s_thing_num, s_thing_truth, s_thing_open, s_thing_list, s_thing_pair, s_thing_either, s_thing_left, s_thing_right, s_thing_thing, s_thing_fault, s_thing_worth, s_thing_table, s_fault_num, s_fault_truth, s_fault_open, s_fault_list, s_fault_pair, s_fault_either, s_fault_left, s_fault_right, s_fault_thing, s_fault_fault, s_fault_worth, s_fault_table, s_worth_num, s_worth_truth, s_worth_open, s_worth_list, s_worth_pair, s_worth_either, s_worth_left, s_worth_right, s_worth_thing, s_worth_fault, s_worth_worth, s_worth_table, s_table_num, s_table_truth, s_table_open, s_table_list, s_table_pair, s_table_either, s_table_left, s_table_right, s_table_thing, s_table_fault, s_table_worth, s_table_table]
    refine st_eq fi.pu fi.pu (by have := fi.de; omega) ?_
    rw [eqT_refl _ fi.pu]
    try simp only [ev_t0, ev_t1, ev_t2, ev_eqs, ev_eqi, ev_intb, ev_inti, ev_add, ev_sub, ev_lt, ev_gt, ev_sl1, ev_in2, ev_lent, ev_isn, Bool.or_false, Bool.or_true, Bool.false_or, Bool.true_or, eqG_f, eqG_t, kq, Bool.not_true, Bool.not_false, if_true, if_false, ite_true, ite_false, reduceIte, s_num_num, s_num_truth, s_num_open, s_num_list, s_num_pair, s_num_either, s_num_left, s_num_right, s_num_thing, s_num_fault, s_num_worth, s_num_table, s_truth_num, s_truth_truth, s_truth_open, s_truth_list, s_truth_pair, s_truth_either, s_truth_left, s_truth_right, s_truth_thing, s_truth_fault, s_truth_worth, s_truth_table, s_open_num, s_open_truth, s_open_open, s_open_list, s_open_pair, s_open_either, s_open_left, s_open_right, s_open_thing, s_open_fault, s_open_worth, s_open_table, s_list_num, s_list_truth, s_list_open, s_list_list, s_list_pair, s_list_either, s_list_left, s_list_right, s_list_thing, s_list_fault, s_list_worth, s_list_table, s_pair_num, s_pair_truth, s_pair_open, s_pair_list, s_pair_pair, s_pair_either, s_pair_left, s_pair_right, s_pair_thing, s_pair_fault, s_pair_worth, s_pair_table, s_either_num, s_either_truth, s_either_open, s_either_list, s_either_pair, s_either_either, s_either_left, s_either_right, s_either_thing, s_either_fault, s_either_worth, s_either_table, s_left_num, s_left_truth, s_left_open, s_left_list, s_left_pair, s_left_either, s_left_left, s_left_right, s_left_thing, s_left_fault, s_left_worth, s_left_table, s_right_num, s_right_truth, s_right_open, s_right_list, s_right_pair, s_right_either, s_right_left, s_right_right, s_right_thing, s_right_fault, s_right_worth, s_right_table, s_thing_num, s_thing_truth, s_thing_open, s_thing_list, s_thing_pair, s_thing_either, s_thing_left, s_thing_right, s_thing_thing, s_thing_fault, s_thing_worth, s_thing_table, s_fault_num, s_fault_truth, s_fault_open, s_fault_list, s_fault_pair, s_fault_either, s_fault_left, s_fault_right, s_fault_thing, s_fault_fault, s_fault_worth, s_fault_table, s_worth_num, s_worth_truth, s_worth_open, s_worth_list, s_worth_pair, s_worth_either, s_worth_left, s_worth_right, s_worth_thing, s_worth_fault, s_worth_worth, s_worth_table, s_table_num, s_table_truth, s_table_open, s_table_list, s_table_pair, s_table_either, s_table_left, s_table_right, s_table_thing, s_table_fault, s_table_worth, s_table_table]
    refine st_repr fi (st_repr fi ?_)
    refine st_eq pur_str pur_str (by rw [depth_str]; omega) ?_
    rw [eqT_refl _ pur_str]
    try simp only [ev_t0, ev_t1, ev_t2, ev_eqs, ev_eqi, ev_intb, ev_inti, ev_add, ev_sub, ev_lt, ev_gt, ev_sl1, ev_in2, ev_lent, ev_isn, Bool.or_false, Bool.or_true, Bool.false_or, Bool.true_or, eqG_f, eqG_t, kq, Bool.not_true, Bool.not_false, if_true, if_false, ite_true, ite_false, reduceIte, s_num_num, s_num_truth, s_num_open, s_num_list, s_num_pair, s_num_either, s_num_left, s_num_right, s_num_thing, s_num_fault, s_num_worth, s_num_table, s_truth_num, s_truth_truth, s_truth_open, s_truth_list, s_truth_pair, s_truth_either, s_truth_left, s_truth_right, s_truth_thing, s_truth_fault, s_truth_worth, s_truth_table, s_open_num, s_open_truth, s_open_open, s_open_list, s_open_pair, s_open_either, s_open_left, s_open_right, s_open_thing, s_open_fault, s_open_worth, s_open_table, s_list_num, s_list_truth, s_list_open, s_list_list, s_list_pair, s_list_either, s_list_left, s_list_right, s_list_thing, s_list_fault, s_list_worth, s_list_table, s_pair_num, s_pair_truth, s_pair_open, s_pair_list, s_pair_pair, s_pair_either, s_pair_left, s_pair_right, s_pair_thing, s_pair_fault, s_pair_worth, s_pair_table, s_either_num, s_either_truth, s_either_open, s_either_list, s_either_pair, s_either_either, s_either_left, s_either_right, s_either_thing, s_either_fault, s_either_worth, s_either_table, s_left_num, s_left_truth, s_left_open, s_left_list, s_left_pair, s_left_either, s_left_left, s_left_right, s_left_thing, s_left_fault, s_left_worth, s_left_table, s_right_num, s_right_truth, s_right_open, s_right_list, s_right_pair, s_right_either, s_right_left, s_right_right, s_right_thing, s_right_fault, s_right_worth, s_right_table, s_thing_num, s_thing_truth, s_thing_open, s_thing_list, s_thing_pair, s_thing_either, s_thing_left, s_thing_right, s_thing_thing, s_thing_fault, s_thing_worth, s_thing_table, s_fault_num, s_fault_truth, s_fault_open, s_fault_list, s_fault_pair, s_fault_either, s_fault_left, s_fault_right, s_fault_thing, s_fault_fault, s_fault_worth, s_fault_table, s_worth_num, s_worth_truth, s_worth_open, s_worth_list, s_worth_pair, s_worth_either, s_worth_left, s_worth_right, s_worth_thing, s_worth_fault, s_worth_worth, s_worth_table, s_table_num, s_table_truth, s_table_open, s_table_list, s_table_pair, s_table_either, s_table_left, s_table_right, s_table_thing, s_table_fault, s_table_worth, s_table_table]
    exact ⟨⟨_, _, rfl⟩, hx.trans x2⟩
end LAW
set_option Elab.async false
set_option linter.all false
set_option maxRecDepth 100000
set_option maxHeartbeats 1000000
/-! D12: plain parts. -/
namespace LAW
open PySem PySem.Spec PyProof.Rows L2 TL
theorem lower9 {x : Str} (h : lower x) : low9 x := ⟨by have := h.2.1; omega, h.2.2⟩
theorem pb_str {x : Str} (h : low9 x) : Pb (.str x) := ⟨by rw [lit_str]; exact h, by rw [nr_str]; trivial, by rw [sz_str]; decide, by rw [depth_str]; decide⟩
theorem pb_bl {b : Bool} : Pb (.bl b) := ⟨by rw [lit_bl]; trivial, by rw [nr_bl]; trivial, by rw [sz_bl]; decide, by unfold T.depth; decide⟩
theorem kd_sz : ∀ k : Kd, sz k.t = k.m
  | .num => by simp only [Kd.t, sz_tup, szs_cons, szs_nil, sz_str, Kd.m]
  | .tru => by simp only [Kd.t, sz_tup, szs_cons, szs_nil, sz_str, Kd.m]
  | .opn x => by simp only [Kd.t, sz_tup, szs_cons, szs_nil, sz_str, Kd.m]
  | .lst k => by simp only [Kd.t, sz_tup, szs_cons, szs_nil, sz_str, Kd.m, kd_sz k]; omega
  | .pair a b => by simp only [Kd.t, sz_tup, szs_cons, szs_nil, sz_str, Kd.m, kd_sz a, kd_sz b]; omega
  | .eith a b => by simp only [Kd.t, sz_tup, szs_cons, szs_nil, sz_str, Kd.m, kd_sz a, kd_sz b]; omega
  | .fn a b => by simp only [Kd.t, sz_tup, szs_cons, szs_nil, sz_str, Kd.m, kd_sz a, kd_sz b]; omega
theorem kd_dp : ∀ k : Kd, k.t.depth = k.h + 1
  | .num => by simp only [Kd.t, depth_tup, depths_cons, depths_nil, depth_str, Kd.h]; rfl
  | .tru => by simp only [Kd.t, depth_tup, depths_cons, depths_nil, depth_str, Kd.h]; rfl
  | .opn x => by simp only [Kd.t, depth_tup, depths_cons, depths_nil, depth_str, Kd.h]; rfl
  | .lst k => by simp only [Kd.t, depth_tup, depths_cons, depths_nil, depth_str, Kd.h, kd_dp k]; omega
  | .pair a b => by simp only [Kd.t, depth_tup, depths_cons, depths_nil, depth_str, Kd.h, kd_dp a, kd_dp b]; omega
  | .eith a b => by simp only [Kd.t, depth_tup, depths_cons, depths_nil, depth_str, Kd.h, kd_dp a, kd_dp b]; omega
  | .fn a b => by simp only [Kd.t, depth_tup, depths_cons, depths_nil, depth_str, Kd.h, kd_dp a, kd_dp b]; omega
theorem w9 : ∀ w ∈ (["num", "truth", "open", "list", "pair", "either", "fun", "name", "hole"] : List Str), w.length ≤ 9 ∧ ∀ c ∈ w.cps.toList, 97 ≤ c ∧ c ≤ 122 := by decide +kernel
theorem whd : ∀ w ∈ (["num", "truth", "open", "list", "pair", "either", "fun"] : List Str), w ≠ "rounds" ∧ w ≠ "hole" := by decide +kernel
theorem kd_ln : ∀ k : Kd, k.ok → Lit k.t ∧ Nr k.t
  | .num, _ => by simp only [Kd.t, lit_tup, lits_cons, lits_nil, lit_str, nr_tup, nrs_cons, nrs_nil, nr_str, hd]; exact ⟨⟨w9 _ (by simp), trivial⟩, whd _ (by simp), trivial, trivial⟩
  | .tru, _ => by simp only [Kd.t, lit_tup, lits_cons, lits_nil, lit_str, nr_tup, nrs_cons, nrs_nil, nr_str, hd]; exact ⟨⟨w9 _ (by simp), trivial⟩, whd _ (by simp), trivial, trivial⟩
  | .opn x, h => by simp only [Kd.t, lit_tup, lits_cons, lits_nil, lit_str, nr_tup, nrs_cons, nrs_nil, nr_str, hd]; exact ⟨⟨w9 _ (by simp), lower9 h, trivial⟩, whd _ (by simp), trivial, trivial, trivial⟩
  | .lst k, h => by
    obtain ⟨a, b⟩ := kd_ln k h
    simp only [Kd.t, lit_tup, lits_cons, lits_nil, lit_str, nr_tup, nrs_cons, nrs_nil, nr_str, hd]; exact ⟨⟨w9 _ (by simp), a, trivial⟩, whd _ (by simp), trivial, b, trivial⟩
  | .pair k l, h => by
    obtain ⟨a, b⟩ := kd_ln k h.1
    obtain ⟨c, d⟩ := kd_ln l h.2
    simp only [Kd.t, lit_tup, lits_cons, lits_nil, lit_str, nr_tup, nrs_cons, nrs_nil, nr_str, hd]; exact ⟨⟨w9 _ (by simp), a, c, trivial⟩, whd _ (by simp), trivial, b, d, trivial⟩
  | .eith k l, h => by
    obtain ⟨a, b⟩ := kd_ln k h.1
    obtain ⟨c, d⟩ := kd_ln l h.2
    simp only [Kd.t, lit_tup, lits_cons, lits_nil, lit_str, nr_tup, nrs_cons, nrs_nil, nr_str, hd]; exact ⟨⟨w9 _ (by simp), a, c, trivial⟩, whd _ (by simp), trivial, b, d, trivial⟩
  | .fn k l, h => by
    obtain ⟨a, b⟩ := kd_ln k h.1
    obtain ⟨c, d⟩ := kd_ln l h.2.1
    simp only [Kd.t, lit_tup, lits_cons, lits_nil, lit_str, nr_tup, nrs_cons, nrs_nil, nr_str, hd]; exact ⟨⟨w9 _ (by simp), a, c, trivial⟩, whd _ (by simp), trivial, b, d, trivial⟩
theorem up6 (d : Int) : up d ≤ 6 ∨ True := .inr trivial
theorem up_le (d : Int) : up d ≤ 6 := by unfold up; omega
theorem Kg.pb {d : Int} {k : Kd} (h : Kg d k) : Pb k.t := by
  obtain ⟨a, b⟩ := kd_ln k h.ok
  have hu := up_le d
  have h1 := h.m
  have h2 := h.h
  have h3 : 2 ^ up d ≤ 2 ^ 6 := Nat.pow_le_pow_right (by decide) hu
  exact ⟨a, b, by rw [kd_sz]; omega, by rw [kd_dp]; omega⟩
end LAW
set_option Elab.async false
set_option linter.all false
set_option maxRecDepth 100000
set_option maxHeartbeats 1000000
/-! D13: the tower. -/
namespace LAW
open PySem PySem.Spec PyProof.Rows L2 TL
theorem sg_right : signs "right" = some [false, true] := by decide +kernel
theorem sg_truth : signs "truth" = some [false] := by decide +kernel
theorem sg_name : signs "name" = some [false] := by decide +kernel
theorem wf_truth (n : Nat) (b : Bool) : WF (n + 1) (.tup [.str "truth", .bl b]) := ⟨_, _, _, rfl, sg_truth, ⟨pb_bl, trivial⟩, fun z => by exact absurd z (by decide +kernel)⟩
theorem wf_name (n : Nat) {x : Str} (h : low9 x) : WF (n + 1) (.tup [.str "name", .str x]) := ⟨_, _, _, rfl, sg_name, ⟨pb_str h, trivial⟩, fun z => by exact absurd z (by decide +kernel)⟩
theorem pb_tru : Pb (.tup [.str "truth"]) := Kg.pb (d := 6) (k := .tru) ⟨trivial, by decide, by decide, by decide⟩
theorem wf_right {n : Nat} {t : T} (h : WF n t) : WF (n + 1) (.tup [.str "right", .tup [.str "truth"], t]) := ⟨_, _, _, rfl, sg_right, ⟨pb_tru, h, trivial⟩, fun z => by exact absurd z (by decide +kernel)⟩
theorem wf_rounds {n : Nat} {a : Int} {x : Str} {t u : T} (h0 : 0 ≤ a) (h1 : a ≤ 30) (hx : low9 x) (h : WF n t) (h2 : WF n u) : WF (n + 1) (.tup [.str "rounds", .int a, t, .str x, u]) := ⟨_, _, _, rfl, signs_rounds, ⟨pb_int h0 (by omega), h, pb_str hx, h2, trivial⟩, fun _ => ⟨_, _, h0, h1, rfl⟩⟩
theorem vc_tower (ts : List T) (S : Sto) (Q : T → Sto → Prop) (hl : ts.length = 2) (h : spTower ts S Q) : t_Ltower (endT Q) (startT N_Ltower.length ts) S := by
  obtain ⟨D, C, b, xs, rfl, dk, nD, nC, hb, h6, hlo, q⟩ := h
  rw [show startT N_Ltower.length [T.adr D, T.adr b] = [some (T.adr D), some (T.adr b), none, none, none, none, none] from rfl]
  obtain ⟨y, ey, hy, _⟩ := atI_ok (xs := xs.map T.str) (i := 2) (by omega) (by rw [List.length_map, h6]; omega)
  obtain ⟨x, hx, rfl⟩ := List.mem_map.mp hy
  have hx9 := lower9 (hlo x hx)
  unfold t_Ltower
  refine seq_cut fun v1 hv1 => ?_
  try simp only [tsNx, tsSeq, tsBrk, tsCt, tsDrop, tsRet, tsRetN, tsIf, tsAsg, tgN, tgsNil, tgsCons, tgTup, tgSub, tsFor, tsWhile, tiSeq, tiRng1, tiRng2, tiZip, tb, tv, tc, tac, tan, ttup, tlst, tq, tand, tor, tnot, tife, tandV, torV, tnotV, tneg, tsl, tno, tpt, tcall, tbi, tml, tml0, tmj, tisi, tlRev, tlRng1, tdisp, tps, tlc, ttYes, bt1, btN, setsT, wipeT, endT, List.getElem?_cons_zero, List.getElem?_cons_succ, List.set_cons_zero, List.set_cons_succ]
  refine ⟨z4000 (by simp), ?_⟩
  rw [hv1]
  refine seq_cut fun v2 hv2 => for_cut fun b1 hb1 => ?_
  try simp only [tsNx, tsSeq, tsBrk, tsCt, tsDrop, tsRet, tsRetN, tsIf, tsAsg, tgN, tgsNil, tgsCons, tgTup, tgSub, tsFor, tsWhile, tiSeq, tiRng1, tiRng2, tiZip, tb, tv, tc, tac, tan, ttup, tlst, tq, tand, tor, tnot, tife, tandV, torV, tnotV, tneg, tsl, tno, tpt, tcall, tbi, tml, tml0, tmj, tisi, tlRev, tlRng1, tdisp, tps, tlc, ttYes, bt1, btN, setsT, wipeT, endT, List.getElem?_cons_zero, List.getElem?_cons_succ, List.set_cons_zero, List.set_cons_succ]
  refine ⟨by omega, by omega, fun i ρ' S' => i ≤ 9 ∧ Fr D C S S' ∧ ∃ t k3 k4 k5 k6, ρ' = [some (T.adr D), some (T.adr b), some t, k3, k4, k5, k6] ∧ WF (2 * i + 1) t ∧ sz t ≤ 3 + 20 * i, ⟨Nat.zero_le _, Fr.refl dk, _, _, _, _, _, rfl, wf_truth 0 true, by simp only [sz_tup, szs_cons, szs_nil, sz_str, sz_bl]; decide⟩, ?_⟩
  rintro i ρ' S' ⟨hi, fr, t, k3, k4, k5, k6, rfl, hw, hz⟩
  refine ⟨trivial, ?_⟩
  cases he : (rngT 0 (9 : Int).toNat)[i]? with
  | none =>
    simp only []
    rw [hv2]
    try simp only [tsNx, tsSeq, tsBrk, tsCt, tsDrop, tsRet, tsRetN, tsIf, tsAsg, tgN, tgsNil, tgsCons, tgTup, tgSub, tsFor, tsWhile, tiSeq, tiRng1, tiRng2, tiZip, tb, tv, tc, tac, tan, ttup, tlst, tq, tand, tor, tnot, tife, tandV, torV, tnotV, tneg, tsl, tno, tpt, tcall, tbi, tml, tml0, tmj, tisi, tlRev, tlRng1, tdisp, tps, tlc, ttYes, bt1, btN, setsT, wipeT, endT, List.getElem?_cons_zero, List.getElem?_cons_succ, List.set_cons_zero, List.set_cons_succ]
    exact q t S' ⟨WF.mono hw (by omega), by omega⟩ fr
  | some y =>
    obtain ⟨hi9, _⟩ := rng_some he
    have hi9 : i < 9 := hi9
    try simp only [tsNx, tsSeq, tsBrk, tsCt, tsDrop, tsRet, tsRetN, tsIf, tsAsg, tgN, tgsNil, tgsCons, tgTup, tgSub, tsFor, tsWhile, tiSeq, tiRng1, tiRng2, tiZip, tb, tv, tc, tac, tan, ttup, tlst, tq, tand, tor, tnot, tife, tandV, torV, tnotV, tneg, tsl, tno, tpt, tcall, tbi, tml, tml0, tmj, tisi, tlRev, tlRng1, tdisp, tps, tlc, ttYes, bt1, btN, setsT, wipeT, endT, List.getElem?_cons_zero, List.getElem?_cons_succ, List.set_cons_zero, List.set_cons_succ]
    rw [hb1]
    refine seq_cut fun v3 hv3 => ?_
    try simp only [tsNx, tsSeq, tsBrk, tsCt, tsDrop, tsRet, tsRetN, tsIf, tsAsg, tgN, tgsNil, tgsCons, tgTup, tgSub, tsFor, tsWhile, tiSeq, tiRng1, tiRng2, tiZip, tb, tv, tc, tac, tan, ttup, tlst, tq, tand, tor, tnot, tife, tandV, torV, tnotV, tneg, tsl, tno, tpt, tcall, tbi, tml, tml0, tmj, tisi, tlRev, tlRng1, tdisp, tps, tlc, ttYes, bt1, btN, setsT, wipeT, endT, List.getElem?_cons_zero, List.getElem?_cons_succ, List.set_cons_zero, List.set_cons_succ]
    refine ⟨rfl, D, C, 30, rfl, fr.dk, by omega, by omega, fun m S2 m0 m1 f2 => ?_⟩
    have f3 := fr.trans f2
    refine st_add ?_
    rw [hv3]
    refine seq_cut fun v4 hv4 => ?_
    try simp only [tsNx, tsSeq, tsBrk, tsCt, tsDrop, tsRet, tsRetN, tsIf, tsAsg, tgN, tgsNil, tgsCons, tgTup, tgSub, tsFor, tsWhile, tiSeq, tiRng1, tiRng2, tiZip, tb, tv, tc, tac, tan, ttup, tlst, tq, tand, tor, tnot, tife, tandV, torV, tnotV, tneg, tsl, tno, tpt, tcall, tbi, tml, tml0, tmj, tisi, tlRev, tlRng1, tdisp, tps, tlc, ttYes, bt1, btN, setsT, wipeT, endT, List.getElem?_cons_zero, List.getElem?_cons_succ, List.set_cons_zero, List.set_cons_succ]
    refine ⟨z4000 (by simp), z4000 (by simp), ?_⟩
    rw [hv4]
    refine seq_cut fun v5 hv5 => ?_
    try simp only [tsNx, tsSeq, tsBrk, tsCt, tsDrop, tsRet, tsRetN, tsIf, tsAsg, tgN, tgsNil, tgsCons, tgTup, tgSub, tsFor, tsWhile, tiSeq, tiRng1, tiRng2, tiZip, tb, tv, tc, tac, tan, ttup, tlst, tq, tand, tor, tnot, tife, tandV, torV, tnotV, tneg, tsl, tno, tpt, tcall, tbi, tml, tml0, tmj, tisi, tlRev, tlRng1, tdisp, tps, tlc, ttYes, bt1, btN, setsT, wipeT, endT, List.getElem?_cons_zero, List.getElem?_cons_succ, List.set_cons_zero, List.set_cons_succ]
    have hb3 := f3.kp _ _ nD nC hb
    refine st_ixl hb3 ey ?_
    refine ⟨z4000 (by simp), ?_⟩
    refine st_ixl hb3 ey ?_
    refine ⟨z4000 (by simp), ?_⟩
    refine ⟨z4000 (by simp), ?_⟩
    refine ⟨z4000 (by simp), ?_⟩
    refine st_lst (by simp) (nw fun p S3 hp hpp x3 => ?_)
    obtain ⟨nD', nC'⟩ : p ≠ D ∧ p ≠ C := by
      obtain ⟨_, _, _, _, h1, h2, _⟩ := f3.dk
      exact ⟨fun z => (by rw [z, h1] at hp; cases hp), fun z => (by rw [z, h2] at hp; cases hp)⟩
    rw [hv5]
    refine seq_cut fun v6 hv6 => ?_
    try simp only [tsNx, tsSeq, tsBrk, tsCt, tsDrop, tsRet, tsRetN, tsIf, tsAsg, tgN, tgsNil, tgsCons, tgTup, tgSub, tsFor, tsWhile, tiSeq, tiRng1, tiRng2, tiZip, tb, tv, tc, tac, tan, ttup, tlst, tq, tand, tor, tnot, tife, tandV, torV, tnotV, tneg, tsl, tno, tpt, tcall, tbi, tml, tml0, tmj, tisi, tlRev, tlRng1, tdisp, tps, tlc, ttYes, bt1, btN, setsT, wipeT, endT, List.getElem?_cons_zero, List.getElem?_cons_succ, List.set_cons_zero, List.set_cons_succ]
    have f4 := f3.ex x3
    refine ⟨st_isl hpp, ?_⟩
    refine ⟨z4000 (by simp), ?_⟩
    refine st_ixl (f4.kp _ _ nD nC hb) ey ?_
    refine ⟨z4000 (by simp), ?_⟩
    refine st_app hpp (Nat.lt_of_lt_of_le (show _ < 100 by simp) (by decide)) fun S4 u4 => ?_
    rw [hv6]
    try simp only [tsNx, tsSeq, tsBrk, tsCt, tsDrop, tsRet, tsRetN, tsIf, tsAsg, tgN, tgsNil, tgsCons, tgTup, tgSub, tsFor, tsWhile, tiSeq, tiRng1, tiRng2, tiZip, tb, tv, tc, tac, tan, ttup, tlst, tq, tand, tor, tnot, tife, tandV, torV, tnotV, tneg, tsl, tno, tpt, tcall, tbi, tml, tml0, tmj, tisi, tlRev, tlRng1, tdisp, tps, tlc, ttYes, bt1, btN, setsT, wipeT, endT, List.getElem?_cons_zero, List.getElem?_cons_succ, List.set_cons_zero, List.set_cons_succ]
    have f5 : Fr D C S S4 := by
      refine ⟨?_, fun a o h1 h2 h => u4.get (fun z => by have := f3.kp a o h1 h2 h; rw [z, hp] at this; cases this) (f4.kp a o h1 h2 h)⟩
      obtain ⟨ne, a1, a2, a3, a4, a5, a6⟩ := f4.dk
      exact ⟨ne, a1, a2, a3, u4.get (Ne.symm nD') a4, u4.get (Ne.symm nC') a5, a6⟩
    refine ⟨rfl, D, C, 2, rfl, f5.dk, by omega, by omega, fun z S5 z0 z1 f6 => ?_⟩
    have hp5 := f6.kp _ _ nD' nC' u4.at_
    have key : ∀ A B : T, ∃ r, atI ([A] ++ [B]) z = some r ∧ (r = A ∨ r = B) := fun A B => by
      obtain ⟨r, er, hr, _⟩ := atI_ok (xs := [A] ++ [B]) (i := z) z0 (by simp; omega)
      exact ⟨r, er, by simpa using hr⟩
    refine (key _ _).elim fun r hrr => st_ixl hp5 hrr.1 ?_
    have hr := hrr.2
    refine ⟨hi9, f5.trans f6, r, _, _, _, _, rfl, ?_⟩
    have e21 : 2 * (i + 1) + 1 = (2 * i + 2) + 1 := by omega
    rw [e21]
    rcases hr with rfl | rfl
    · refine ⟨wf_rounds (by omega) (by omega) hx9 (WF.mono hw (by omega)) (WF.mono (wf_right (wf_name 0 hx9)) (by omega)), ?_⟩
      simp only [sz_tup, szs_cons, szs_nil, sz_str, sz_int]; omega
    · refine ⟨wf_rounds (by omega) (by omega) hx9 (WF.mono (wf_truth 0 false) (by omega)) (wf_right hw), ?_⟩
      simp only [sz_tup, szs_cons, szs_nil, sz_str, sz_int, sz_bl]; omega
end LAW
set_option Elab.async false
set_option linter.all false
set_option maxRecDepth 100000
set_option maxHeartbeats 1000000
/-! D14: a kind's arguments. -/
namespace LAW
open PySem PySem.Spec PyProof.Rows L2 TL
def Kd.w : Kd → Str | .num => "num" | .tru => "truth" | .opn _ => "open" | .lst _ => "list" | .pair _ _ => "pair" | .eith _ _ => "either" | .fn _ _ => "fun"
def Kd.r : Kd → List T | .num => [] | .tru => [] | .opn x => [.str x] | .lst k => [k.t] | .pair a b => [a.t, b.t] | .eith a b => [a.t, b.t] | .fn a b => [a.t, b.t]
theorem kd_t : ∀ k : Kd, k.t = .tup (.str k.w :: k.r)
  | .num => rfl | .tru => rfl | .opn _ => rfl | .lst _ => rfl | .pair _ _ => rfl | .eith _ _ => rfl | .fn _ _ => rfl
def isFn : Kd → Bool | .fn _ _ => true | _ => false
theorem w_fn : ∀ k : Kd, (k.w == (Str.ofString "fun")) = isFn k
  | .num => (by decide +kernel : ((Str.ofString "num") == (Str.ofString "fun")) = false)
  | .tru => (by decide +kernel : ((Str.ofString "truth") == (Str.ofString "fun")) = false)
  | .opn _ => (by decide +kernel : ((Str.ofString "open") == (Str.ofString "fun")) = false)
  | .lst _ => (by decide +kernel : ((Str.ofString "list") == (Str.ofString "fun")) = false)
  | .pair _ _ => (by decide +kernel : ((Str.ofString "pair") == (Str.ofString "fun")) = false)
  | .eith _ _ => (by decide +kernel : ((Str.ofString "either") == (Str.ofString "fun")) = false)
  | .fn _ _ => (by decide +kernel : ((Str.ofString "fun") == (Str.ofString "fun")) = true)
theorem args_len : ∀ k : Kd, k.args.length ≤ k.m
  | .num => Nat.zero_le _ | .tru => Nat.zero_le _ | .opn _ => Nat.zero_le _ | .lst _ => Nat.zero_le _ | .pair _ _ => Nat.zero_le _ | .eith _ _ => Nat.zero_le _
  | .fn a b => by show b.args.length + 1 ≤ a.m + b.m + 2; have := args_len b; omega
theorem vc_args (ts : List T) (S : Sto) (Q : T → Sto → Prop) (hl : ts.length = 1) (h : spArgs ts S Q) : t_Larguments (endT Q) (startT N_Larguments.length ts) S := by
  obtain ⟨kd, rfl, hm, q⟩ := h
  rw [show startT N_Larguments.length [kd.t] = [some kd.t, none] from rfl]
  unfold t_Larguments
  refine seq_cut fun v1 hv1 => ?_
  try simp only [tsNx, tsSeq, tsBrk, tsCt, tsDrop, tsRet, tsRetN, tsIf, tsAsg, tgN, tgsNil, tgsCons, tgTup, tgSub, tsFor, tsWhile, tiSeq, tiRng1, tiRng2, tiZip, tb, tv, tc, tac, tan, ttup, tlst, tq, tand, tor, tnot, tife, tandV, torV, tnotV, tneg, tsl, tno, tpt, tcall, tbi, tml, tml0, tmj, tisi, tlRev, tlRng1, tdisp, tps, tlc, ttYes, bt1, btN, setsT, wipeT, endT, List.getElem?_cons_zero, List.getElem?_cons_succ, List.set_cons_zero, List.set_cons_succ]
  refine st_nil (nw fun p S1 hp hpp x1 => ?_)
  rw [hv1]
  refine seq_cut fun v2 hv2 => ?_
  try simp only [tsNx, tsSeq, tsBrk, tsCt, tsDrop, tsRet, tsRetN, tsIf, tsAsg, tgN, tgsNil, tgsCons, tgTup, tgSub, tsFor, tsWhile, tiSeq, tiRng1, tiRng2, tiZip, tb, tv, tc, tac, tan, ttup, tlst, tq, tand, tor, tnot, tife, tandV, torV, tnotV, tneg, tsl, tno, tpt, tcall, tbi, tml, tml0, tmj, tisi, tlRev, tlRng1, tdisp, tps, tlc, ttYes, bt1, btN, setsT, wipeT, endT, List.getElem?_cons_zero, List.getElem?_cons_succ, List.set_cons_zero, List.set_cons_succ]
  refine ⟨fun m ρ S' => ∃ (cur : Kd) (done : List Kd), m = cur.m ∧ ρ = [some cur.t, some (T.adr p)] ∧ done ++ cur.args = kd.args ∧ cur.res = kd.res ∧ S' p = some (.lst (done.map Kd.t)) ∧ (∀ a o, S a = some o → S' a = some o), ⟨kd.m, kd, [], rfl, rfl, rfl, rfl, hpp, x1⟩, ?_⟩
  rintro m ρ S' ⟨cur, done, rfl, rfl, h1, h2, h3, h4⟩
  have hal := args_len kd
  have hdl : done.length ≤ kd.args.length := by rw [← h1, List.length_append]; omega
  try simp only [tsNx, tsSeq, tsBrk, tsCt, tsDrop, tsRet, tsRetN, tsIf, tsAsg, tgN, tgsNil, tgsCons, tgTup, tgSub, tsFor, tsWhile, tiSeq, tiRng1, tiRng2, tiZip, tb, tv, tc, tac, tan, ttup, tlst, tq, tand, tor, tnot, tife, tandV, torV, tnotV, tneg, tsl, tno, tpt, tcall, tbi, tml, tml0, tmj, tisi, tlRev, tlRng1, tdisp, tps, tlc, ttYes, bt1, btN, setsT, wipeT, endT, List.getElem?_cons_zero, List.getElem?_cons_succ, List.set_cons_zero, List.set_cons_succ]
  rw [kd_t cur]
  simp only [ev_t0, ev_eqs, eqG_f, w_fn]
  have stop : cur.args = [] → cur.res = cur → v2 (endT Q) [some cur.t, some (T.adr p)] S' := by
    intro e1 e2
    rw [hv2]
    try simp only [tsNx, tsSeq, tsBrk, tsCt, tsDrop, tsRet, tsRetN, tsIf, tsAsg, tgN, tgsNil, tgsCons, tgTup, tgSub, tsFor, tsWhile, tiSeq, tiRng1, tiRng2, tiZip, tb, tv, tc, tac, tan, ttup, tlst, tq, tand, tor, tnot, tife, tandV, torV, tnotV, tneg, tsl, tno, tpt, tcall, tbi, tml, tml0, tmj, tisi, tlRev, tlRng1, tdisp, tps, tlc, ttYes, bt1, btN, setsT, wipeT, endT, List.getElem?_cons_zero, List.getElem?_cons_succ, List.set_cons_zero, List.set_cons_succ]
    refine ⟨z4000 (by simp), ?_⟩
    rw [e1, List.append_nil] at h1
    rw [h1] at h3
    have := q p S' h4 hp h3
    rw [← h2, e2] at this
    exact this
  rw [← kd_t cur]
  cases cur with
  | fn a b =>
    simp only [isFn, kq]
    try simp only [tsNx, tsSeq, tsBrk, tsCt, tsDrop, tsRet, tsRetN, tsIf, tsAsg, tgN, tgsNil, tgsCons, tgTup, tgSub, tsFor, tsWhile, tiSeq, tiRng1, tiRng2, tiZip, tb, tv, tc, tac, tan, ttup, tlst, tq, tand, tor, tnot, tife, tandV, torV, tnotV, tneg, tsl, tno, tpt, tcall, tbi, tml, tml0, tmj, tisi, tlRev, tlRng1, tdisp, tps, tlc, ttYes, bt1, btN, setsT, wipeT, endT, List.getElem?_cons_zero, List.getElem?_cons_succ, List.set_cons_zero, List.set_cons_succ]
    refine ⟨st_isl h3, ?_⟩
    simp only [Kd.t, ev_t1]
    refine st_app h3 (Nat.lt_of_lt_of_le (show _ < 6001 by rw [List.length_map]; omega) (by decide)) fun S2 u => ?_
    simp only [ev_t2]
    refine ⟨b.m, by show b.m < a.m + b.m + 2; omega, b, done ++ [a], rfl, rfl, ?_, h2, ?_, fun c o h => u.get (nn hp h) (h4 c o h)⟩
    · rw [List.append_assoc]; exact h1
    · rw [u.at_, List.map_append]; rfl
  | num => simp only [isFn, kq]; exact stop rfl rfl
  | tru => simp only [isFn, kq]; exact stop rfl rfl
  | opn x => simp only [isFn, kq]; exact stop rfl rfl
  | lst k => simp only [isFn, kq]; exact stop rfl rfl
  | pair a b => simp only [isFn, kq]; exact stop rfl rfl
  | eith a b => simp only [isFn, kq]; exact stop rfl rfl
end LAW
set_option Elab.async false
set_option linter.all false
set_option maxRecDepth 100000
set_option maxHeartbeats 1000000
/-! D15: the tools. -/
namespace LAW
open PySem PySem.Spec PyProof.Rows L2 TL
def toolsK (a b c : Addr) (o : Str) (f : Int) : List (Key × T) := [(.inr (Str.ofString "opens"), .adr a), (.inr (Str.ofString "looked"), .adr b), (.inr (Str.ofString "names"), .adr c), (.inr (Str.ofString "own"), .str o), (.inr (Str.ofString "faults"), .int f)]
theorem vp {k : Key} {x : T} {r : List (Key × T)} : valT ((k, x) :: r) k = some x := valT_pos rfl
theorem vn {a b : Str} {x : T} {r : List (Key × T)} (h : (a == b) = false) : valT (((.inr a : Key), x) :: r) (.inr b) = valT r (.inr b) := valT_neg (fun z => by
  have z : (Sum.inr a : Key) = .inr b := z
  injection z with z
  rw [z] at h
  simp at h)
def gK (p : Str × T) : Key × T := (.inr p.1, p.2)
theorem valT_no {k : Str} : ∀ {acc : List (Str × T)}, k ∉ acc.map (·.1) → valT (acc.map gK) (.inr k) = none
  | [], _ => rfl
  | p :: r, h => by
    rw [List.map_cons, List.mem_cons, not_or] at h
    rw [List.map_cons]
    unfold gK
    rw [valT_neg (fun z => h.1 (by injection z with z; exact z.symm))]
    exact valT_no h.2
theorem merge_strs {ks : List Str} (hk : ks.Nodup) : ∀ (kvs acc : List (Str × T)), (acc ++ kvs).map (·.1) = ks → mergeT (acc.map gK) (kvs.map gK) = (acc ++ kvs).map gK
  | [], acc, _ => by rw [List.append_nil]; rfl
  | p :: r, acc, e => by
    have hn : p.1 ∉ acc.map (·.1) := by
      intro z
      rw [← e, List.map_append, List.nodup_append] at hk
      exact hk.2.2 _ z _ (by simp) rfl
    have := merge_strs hk r (acc ++ [p]) (by rw [List.append_assoc]; exact e)
    rw [List.append_assoc] at this
    refine Eq.trans ?_ this
    show mergeT (putT (acc.map gK) (.inr p.1) p.2) (r.map gK) = _
    rw [putT_new _ (valT_no hn), List.map_append]
    rfl
theorem tk1 (a b c : Addr) (o : Str) (f : Int) : mergeT [] (toolsK a b c o f) = toolsK a b c o f :=
  merge_strs (ks := ["opens", "looked", "names", "own", "faults"]) (by decide +kernel) [("opens", .adr a), ("looked", .adr b), ("names", .adr c), ("own", .str o), ("faults", .int f)] [] rfl
theorem tk2 (a b c : Addr) (o : Str) (f : Int) (v : T) : putT (toolsK a b c o f) (.inr (Str.ofString "words")) v = toolsK a b c o f ++ [(.inr (Str.ofString "words"), v)] := by
  refine putT_new v ?_
  unfold toolsK
  rw [vn (by decide +kernel), vn (by decide +kernel), vn (by decide +kernel), vn (by decide +kernel), vn (by decide +kernel)]
  rfl
theorem six {xs : List Str} (h : xs.length = 6) : ∃ a b c d e f, xs = [a, b, c, d, e, f] := by
  match xs, h with
  | [a, b, c, d, e, f], _ => exact ⟨a, b, c, d, e, f, rfl⟩
theorem vc_tools (ts : List T) (S : Sto) (Q : T → Sto → Prop) (hl : ts.length = 4) (h : spTools ts S Q) : t_Ltools (endT Q) (startT N_Ltools.length ts) S := by
  obtain ⟨D, C, nm, lk, wd, xs, lks, ws, own, f, rfl, dk, n1, n2, n3, n4, n5, n6, hnm, h6, hlo, hlk, hwd, w1, w2, w3, q⟩ := h
  rw [show startT N_Ltools.length [T.adr nm, T.adr lk, T.int f, T.adr wd] = [some (T.adr nm), some (T.adr lk), some (T.int f), some (T.adr wd), none] from rfl]
  obtain ⟨a, b, c, d, e, g, rfl⟩ := six h6
  unfold t_Ltools
  refine seq_cut fun v1 hv1 => ?_
  try simp only [tsNx, tsSeq, tsBrk, tsCt, tsDrop, tsRet, tsRetN, tsIf, tsAsg, tgN, tgsNil, tgsCons, tgTup, tgSub, tsFor, tsWhile, tiSeq, tiRng1, tiRng2, tiZip, tb, tv, tc, tac, tan, ttup, tlst, tq, tand, tor, tnot, tife, tandV, torV, tnotV, tneg, tsl, tno, tpt, tcall, tbi, tml, tml0, tmj, tisi, tlRev, tlRng1, tdisp, tps, tlc, ttYes, bt1, btN, setsT, wipeT, endT, List.getElem?_cons_zero, List.getElem?_cons_succ, List.set_cons_zero, List.set_cons_succ]
  intro p S0 hp u0
  have x0 : Ex S S0 := fun a o h => u0.get (nn hp h) h
  refine st_sll (x0 _ _ hnm) (nw fun p1 S1 hp1 hpp1 x1 => ?_)
  have x01 := x0.trans x1
  refine st_sll (x01 _ _ hnm) (nw fun p2 S2 hp2 hpp2 x2 => ?_)
  have x02 := x01.trans x2
  refine st_ixl (x02 _ _ hnm) (v := .str g) rfl ?_
  have hp2' : S2 p = some (.dk []) := x2 _ _ (x1 _ _ u0.at_)
  refine ⟨hp2', ?_⟩
  simp only [keysOf, keyT, Option.bind_some, Option.map_some]
  refine ⟨by simp, fun S3 u3 => ?_⟩
  rw [show ([((Sum.inr (Str.ofString "opens") : Key), T.adr p1), (.inr (Str.ofString "looked"), .adr lk), (.inr (Str.ofString "names"), .adr p2), (.inr (Str.ofString "own"), .str g), (.inr (Str.ofString "faults"), .int f)] : List (Key × T)) = toolsK p1 lk p2 g f from rfl, tk1] at u3
  rw [hv1]
  try simp only [tsNx, tsSeq, tsBrk, tsCt, tsDrop, tsRet, tsRetN, tsIf, tsAsg, tgN, tgsNil, tgsCons, tgTup, tgSub, tsFor, tsWhile, tiSeq, tiRng1, tiRng2, tiZip, tb, tv, tc, tac, tan, ttup, tlst, tq, tand, tor, tnot, tife, tandV, torV, tnotV, tneg, tsl, tno, tpt, tcall, tbi, tml, tml0, tmj, tisi, tlRev, tlRng1, tdisp, tps, tlc, ttYes, bt1, btN, setsT, wipeT, endT, List.getElem?_cons_zero, List.getElem?_cons_succ, List.set_cons_zero, List.set_cons_succ]
  refine st_setd u3.at_ rfl (by unfold toolsK; exact Nat.lt_of_lt_of_le (show 5 < 100 by decide) (by decide)) fun S4 u4 => ?_
  rw [tk2] at u4
  have x02' := x02
  have np1 : p1 ≠ p := fun z => by rw [z, u0.at_] at hp1; cases hp1
  have np2 : p2 ≠ p := fun z => by rw [z, x1 _ _ u0.at_] at hp2; cases hp2
  have xf : ∀ a o, a ≠ p → S2 a = some o → S4 a = some o := fun a o h e => u4.get h (u3.get h e)
  have xS : Ex S S4 := fun a o h => xf a o (nn hp h) (x02 a o h)
  refine q p S4 hp ⟨g, ?_⟩ xS
  obtain ⟨ne, c1, c2, c3, hD, hC, c4⟩ := dk
  have nD1 : ∀ y : Addr, S y = none → y ≠ D ∧ y ≠ C := fun y h => ⟨fun z => (by rw [z, hD] at h; cases h), fun z => (by rw [z, hC] at h; cases h)⟩
  refine ⟨hlo g (by simp), (nD1 p hp).1, (nD1 p hp).2, _, p2, lk, wd, c, d, e, lks, ws, f, u4.at_, ?_, ⟨(nD1 p2 (x01.none hp2)).1, (nD1 p2 (x01.none hp2)).2, ?_, xf _ _ np2 hpp2, hlo c (by simp), hlo d (by simp), hlo e (by simp)⟩, ⟨n3, n4, ?_, xS _ _ hlk⟩, ⟨n5, n6, ?_, xS _ _ hwd, w1, w2, w3⟩, ?_, ?_⟩
  · unfold toolsK; simp
  all_goals
    unfold toolsK
    simp only [List.cons_append, List.nil_append]
    repeat (first | rw [vp] | rw [vn (by decide +kernel)])
end LAW
set_option Elab.async false
set_option linter.all false
set_option maxRecDepth 100000
set_option maxHeartbeats 1000000
/-! D16: how great a term is. -/
namespace LAW
open PySem PySem.Spec PyProof.Rows L2 TL
def sgF (z : Str) : List Bool := z.cps.toList.map fun c => decide (c = 116)
def posCase (w : Str) (sg : List Bool) : Prop :=
  (w ∈ (["name", "num", "truth", "none", "fault"] : List Str) ∧ spots 1 sg = []) ∨
  (w ∈ (["first", "second", "if"] : List Str) ∧ spots 1 sg = (List.range sg.length).map (1 + ·)) ∨
  (w = "fun" ∧ spots 1 sg = [3]) ∨ (w = "left" ∧ spots 1 sg = [1]) ∨ (w = "right" ∧ spots 1 sg = [2]) ∨ (w = "case" ∧ spots 1 sg = [1, 3, 5]) ∨
  (w = "fold" ∧ spots 1 sg = [1, 2, 5]) ∨ (w = "built" ∧ spots 1 sg = [5]) ∨ (w = "rounds" ∧ spots 1 sg = [2, 4]) ∨
  (w ∈ (["call", "plus", "less", "pair", "more", "alike"] : List Str) ∧ spots 1 sg = [1, 2])
instance (w : Str) (sg : List Bool) : Decidable (posCase w sg) := by unfold posCase; infer_instance
theorem pos_all : ∀ r ∈ formsL, posCase r.1 (sgF r.2) := by decide +kernel
theorem pos_case {w : Str} {sg : List Bool} (h : signs w = some sg) : posCase w sg := by
  unfold signs formOf at h
  cases e : formsL.find? fun r => decide (r.1 = w) with
  | none => rw [e] at h; cases h
  | some r =>
    rw [e] at h
    cases h
    have h1 := pos_all r (List.mem_of_find?_eq_some e)
    have h2 : r.1 = w := by simpa using List.find?_some e
    rw [h2] at h1
    exact h1
theorem Parts.rep {W W' P : T → Prop} : ∀ {sg : List Bool} {ps : List T}, Parts W P sg ps → (∀ x ∈ LAW.inn sg ps, W' x) → Parts W' P sg ps
  | [], [], _, _ => trivial
  | true :: sg, p :: ps, h, g => ⟨g p (by show p ∈ p :: LAW.inn sg ps; exact List.mem_cons_self), Parts.rep h.2 fun x hx => g x (by show x ∈ p :: LAW.inn sg ps; exact List.mem_cons_of_mem _ hx)⟩
  | false :: sg, p :: ps, h, g => ⟨h.1, Parts.rep h.2 g⟩
  | [], _ :: _, h, _ => h.elim
  | true :: _, [], h, _ => h.elim
  | false :: _, [], h, _ => h.elim
theorem Parts.szs {W : T → Prop} : ∀ {sg : List Bool} {ps : List T}, Parts W Pb sg ps → LAW.szs ps ≤ LAW.szs (LAW.inn sg ps) + 5200 * (sg.length - (LAW.inn sg ps).length) ∧ (LAW.inn sg ps).length ≤ sg.length
  | [], [], _ => ⟨Nat.le_refl _, Nat.le_refl _⟩
  | true :: sg, p :: ps, h => by
    have ih := Parts.szs h.2
    rw [show LAW.inn (true :: sg) (p :: ps) = p :: LAW.inn sg ps from rfl, szs_cons, szs_cons, List.length_cons, List.length_cons]
    constructor
    · have := ih.1
      rw [show sg.length + 1 - ((LAW.inn sg ps).length + 1) = sg.length - (LAW.inn sg ps).length by omega]; omega
    · have := ih.2; omega
  | false :: sg, p :: ps, h => by
    have ih := Parts.szs h.2
    rw [show LAW.inn (false :: sg) (p :: ps) = LAW.inn sg ps from rfl, szs_cons, List.length_cons]
    have h1 := h.1.sz
    have h2 := ih.2
    constructor
    · have := ih.1
      rw [show sg.length + 1 - (LAW.inn sg ps).length = sg.length - (LAW.inn sg ps).length + 1 by omega]; omega
    · omega
  | [], _ :: _, h => h.elim
  | true :: _, [], h => h.elim
  | false :: _, [], h => h.elim
theorem non_terms : ∀ r ∈ formsL, (sgF r.2).length - (spots 1 (sgF r.2)).length ≤ 4 := by decide +kernel
theorem non4 {w : Str} {sg : List Bool} (h : signs w = some sg) : sg.length - (spots 1 sg).length ≤ 4 := by
  unfold signs formOf at h
  cases e : formsL.find? fun r => decide (r.1 = w) with
  | none => rw [e] at h; cases h
  | some r =>
    rw [e] at h
    cases h
    exact non_terms r (List.mem_of_find?_eq_some e)
/-- what is told of one inner term -/
def Told (x : T) (p : Nat × Nat) : Prop := WF p.2 x ∧ sz x ≤ 20900 * p.1 ∧ 1 ≤ p.1 ∧ 1 ≤ p.2
def Tolds : List T → List (Nat × Nat) → Prop
  | [], [] => True
  | x :: xs, p :: ps => Told x p ∧ Tolds xs ps
  | _, _ => False
theorem Tolds.len : ∀ {xs : List T} {ps : List (Nat × Nat)}, Tolds xs ps → ps.length = xs.length
  | [], [], _ => rfl
  | x :: xs, p :: ps, h => congrArg (· + 1) (Tolds.len h.2)
  | [], _ :: _, h => h.elim
  | _ :: _, [], h => h.elim
theorem Tolds.snoc {x : T} {p : Nat × Nat} (g : Told x p) : ∀ {xs : List T} {ps : List (Nat × Nat)}, Tolds xs ps → Tolds (xs ++ [x]) (ps ++ [p])
  | [], [], _ => ⟨g, trivial⟩
  | y :: xs, q :: ps, h => ⟨h.1, Tolds.snoc g h.2⟩
  | [], _ :: _, h => h.elim
  | _ :: _, [], h => h.elim
theorem Tolds.sum : ∀ {xs : List T} {ps : List (Nat × Nat)}, Tolds xs ps → LAW.szs xs ≤ 20900 * (ps.map (·.1)).sum
  | [], [], _ => Nat.zero_le _
  | x :: xs, p :: ps, h => by
    have := Tolds.sum h.2
    have := h.1.2.1
    rw [szs_cons, List.map_cons, List.sum_cons]; omega
  | [], _ :: _, h => h.elim
  | _ :: _, [], h => h.elim
theorem Tolds.wf {m : Nat} : ∀ {xs : List T} {ps : List (Nat × Nat)}, Tolds xs ps → (∀ p ∈ ps, p.2 ≤ m) → ∀ x ∈ xs, WF m x
  | [], [], _, _, x, hx => by cases hx
  | y :: xs, p :: ps, h, g, x, hx => by
    rcases List.mem_cons.mp hx with z | z
    · rw [z]; exact WF.mono h.1.1 (g p List.mem_cons_self)
    · exact Tolds.wf h.2 (fun q hq => g q (List.mem_cons_of_mem _ hq)) x z
  | [], _ :: _, h, _, _, _ => h.elim
  | _ :: _, [], h, _, _, _ => h.elim
theorem told_end {n : Nat} {w : Str} {sg : List Bool} {ps : List T} {prs : List (Nat × Nat)} {m : Nat} (hw : signs w = some sg) (hp : Parts (WF n) Pb sg ps) (hr : w = "rounds" → ∃ (a : Int) (r : List T), 0 ≤ a ∧ a ≤ 30 ∧ ps = .int a :: r)
    (ht : Tolds (LAW.inn sg ps) prs) (hm : ∀ p ∈ prs, p.2 ≤ m) : WF (m + 1) (.tup (.str w :: ps)) ∧ sz (.tup (.str w :: ps)) ≤ 20900 * (1 + (prs.map (·.1)).sum) := by
  refine ⟨⟨w, sg, ps, rfl, hw, hp.rep (ht.wf hm), hr⟩, ?_⟩
  have h1 := hp.szs.1
  have h2 := ht.sum
  have h3 := non4 hw
  rw [inn_len sg ps hp.len 1] at h3
  rw [sz_tup, szs_cons, sz_str]
  omega
end LAW
set_option Elab.async false
set_option linter.all false
set_option maxRecDepth 100000
set_option maxHeartbeats 1000000
/-! D17: the measuring walk. -/
namespace LAW
open PySem PySem.Spec PyProof.Rows L2 TL
theorem any_strs (w : Str) : ∀ xs : List Str, ((xs.map T.str).any fun z => eqT z (.str w)) = decide (w ∈ xs)
  | [] => rfl
  | x :: xs => by
    rw [List.map_cons, List.any_cons, eqT_str, any_strs w xs]
    by_cases h : x = w
    · subst h; simp
    · have h2 : (x == w) = false := beq_eq_false_iff_ne.mpr h
      rw [h2, Bool.false_or]
      have : (w ∈ x :: xs) ↔ w ∈ xs := by simp [List.mem_cons, Ne.symm h]
      simp only [this]
theorem st_inS {w : Str} {xs : List Str} {S : Sto} {Q : T → Sto → Prop} (q : Q (.bl (decide (w ∈ xs))) S) : oInG false (.str w) (.tup (xs.map T.str)) S Q := by
  refine ⟨pur_str, purs_strs _, by rw [depth_str]; omega, ?_⟩
  rw [any_strs, eqG_f]; exact q
theorem valT_putsame {kvs : List (Key × T)} {k : Key} {v : T} : valT (putT kvs k v) k = some v := by
  unfold putT
  split
  · rename_i h
    have gen : ∀ l : List (Key × T), (l.any fun kv => decide (kv.1 = k)) = true → valT (l.map fun kv => if kv.1 = k then (kv.1, v) else kv) k = some v := by
      intro l
      induction l with
      | nil => intro z; cases z
      | cons p r ih =>
        intro z
        rw [List.map_cons]
        by_cases e : p.1 = k
        · rw [if_pos e]; exact valT_pos e
        · rw [if_neg e, valT_neg e]
          refine ih ?_
          rw [List.any_cons, decide_eq_false e, Bool.false_or] at z
          exact z
    exact gen kvs h
  · rename_i h
    have gen : ∀ l : List (Key × T), ¬ (l.any fun kv => decide (kv.1 = k)) = true → valT (l ++ [(k, v)]) k = some v := by
      intro l
      induction l with
      | nil => intro _; exact valT_pos rfl
      | cons p r ih =>
        intro z
        rw [List.any_cons, Bool.or_eq_true, not_or] at z
        rw [List.cons_append, valT_neg (by simpa using z.1)]
        exact ih z.2
    exact gen kvs h
def prT (p : Nat × Nat) : T := .tup [.int (p.1 : Int), .int (p.2 : Int)]
theorem sum_nat (xs : List Nat) : (xs.map fun n : Nat => (n : Int)).sum = ((xs.sum : Nat) : Int) := by
  induction xs with
  | nil => rfl
  | cons x xs ih => rw [List.map_cons, List.sum_cons, List.sum_cons, ih]; omega
theorem spots_get {sg : List Bool} {ps : List T} (h : sg.length = ps.length) (w : Str) {i k : Nat} (e : (spots 1 sg)[i]? = some k) : ∃ x, (LAW.inn sg ps)[i]? = some x ∧ (T.str w :: ps)[k]? = some x := by
  have key := inn_spots sg ps [.str w] h
  have e2 := congrArg (fun l => l[i]?) key
  simp only [List.getElem?_map] at e2
  rw [show spots [T.str w].length sg = spots 1 sg from rfl, e] at e2
  have e2 : some (T.str w :: ps)[k]? = ((LAW.inn sg ps)[i]?).map some := e2
  cases e3 : (LAW.inn sg ps)[i]? with
  | none => rw [e3] at e2; cases e2
  | some x => rw [e3] at e2; exact ⟨x, rfl, Option.some.inj e2⟩
def mK (l1 l2 l3 l4 l5 l6 : Addr) : List (Str × T) := [("fun", .adr l1), ("left", .adr l2), ("right", .adr l3), ("case", .adr l4), ("fold", .adr l5), ("built", .adr l6)]
theorem mk1 (l1 l2 l3 l4 l5 l6 : Addr) : mergeT [] ((mK l1 l2 l3 l4 l5 l6).map gK) = (mK l1 l2 l3 l4 l5 l6).map gK :=
  merge_strs (ks := ["fun", "left", "right", "case", "fold", "built"]) (by decide +kernel) (mK l1 l2 l3 l4 l5 l6) [] rfl
theorem mk2 (l1 l2 l3 l4 l5 l6 : Addr) (v : T) : putT ((mK l1 l2 l3 l4 l5 l6).map gK) (.inr "rounds") v = (mK l1 l2 l3 l4 l5 l6 ++ [(Str.ofString "rounds", v)]).map gK := by
  rw [putT_new _ (valT_no (show (Str.ofString "rounds") ∉ (["fun", "left", "right", "case", "fold", "built"] : List Str) by decide +kernel)), List.map_append]; rfl
theorem vc_measured (n : Nat) (ts : List T) (S : Sto) (Q : T → Sto → Prop) (hl : ts.length = 1) (h : spMeasured (n + 1) ts S Q) : t_Lmeasured n (endT Q) (startT N_Lmeasured.length ts) S := by
  obtain ⟨t, rfl, ⟨w, sg, ps, rfl, hw, hp, hr⟩, q⟩ := h
  rw [show startT N_Lmeasured.length [T.tup (.str w :: ps)] = [some (T.tup (.str w :: ps)), none, none, none, none] from rfl]
  have hlen := hp.len
  have h5 := sg_len hw
  have hil := inn_len sg ps hlen 1
  have hsl := spots_le sg 1
  have fin : ∀ (prs : List (Nat × Nat)) (m : Nat) (S' : Sto), Tolds (inn sg ps) prs → (∀ p ∈ prs, p.2 ≤ m) → Ex S S' → Q (.tup [.int ((1 + (prs.map (·.1)).sum : Nat) : Int), .int ((m + 1 : Nat) : Int)]) S' := by
    intro prs m S' h1 h2 h3
    obtain ⟨a, b⟩ := told_end hw hp hr h1 h2
    exact q _ _ S' a b (by omega) (by omega) h3
  unfold t_Lmeasured
  refine seq_cut fun v1 hv1 => ?_
  try simp only [tsNx, tsSeq, tsBrk, tsCt, tsDrop, tsRet, tsRetN, tsIf, tsAsg, tgN, tgsNil, tgsCons, tgTup, tgSub, tsFor, tsWhile, tiSeq, tiRng1, tiRng2, tiZip, tb, tv, tc, tac, tan, ttup, tlst, tq, tand, tor, tnot, tife, tandV, torV, tnotV, tneg, tsl, tno, tpt, tcall, tbi, tml, tml0, tmj, tisi, tlRev, tlRng1, tdisp, tps, tlc_eq, tiEnumS, tixK, tiItems, tiVals, ttYes, bt1, btN, setsT, wipeT, endT, List.getElem?_cons_zero, List.getElem?_cons_succ, List.set_cons_zero, List.set_cons_succ]
  intro p S0 hp0 u0
  refine st_lst (by simp) (nw fun l1 S1 h1 hl1 x1 => ?_)
  refine st_lst (by simp) (nw fun l2 S2 h2 hl2 x2 => ?_)
  refine st_lst (by simp) (nw fun l3 S3 h3 hl3 x3 => ?_)
  refine st_lst (by simp) (nw fun l4 S4 h4 hl4 x4 => ?_)
  refine st_lst (by simp) (nw fun l5 S5 h5' hl5 x5 => ?_)
  refine st_lst (by simp) (nw fun l6 S6 h6 hl6 x6 => ?_)
  have xp1 := x1 _ _ u0.at_
  have xp2 := x2 _ _ xp1
  have xp3 := x3 _ _ xp2
  have xp4 := x4 _ _ xp3
  have xp5 := x5 _ _ xp4
  have xp6 := x6 _ _ xp5
  refine ⟨xp6, ?_⟩
  simp only [keysOf, keyT, Option.bind_some, Option.map_some]
  refine ⟨by simp, fun S7 u7 => ?_⟩
  rw [show ([((Sum.inr (Str.ofString "fun") : Key), T.adr l1), (.inr (Str.ofString "left"), .adr l2), (.inr (Str.ofString "right"), .adr l3), (.inr (Str.ofString "case"), .adr l4), (.inr (Str.ofString "fold"), .adr l5), (.inr (Str.ofString "built"), .adr l6)] : List (Key × T)) = (mK l1 l2 l3 l4 l5 l6).map gK from rfl, mk1] at u7
  have np : ∀ {a : Addr} {S' : Sto} {o : MO}, S' p = some o → S' a = none → a ≠ p := fun hs h z => by rw [z, hs] at h; cases h
  have n1 := np u0.at_ h1
  have n2 := np xp1 h2
  have n3 := np xp2 h3
  have n4 := np xp3 h4
  have n5 := np xp4 h5'
  have n6 := np xp5 h6
  rw [hv1]
  refine seq_cut fun v2 hv2 => ?_
  try simp only [tsNx, tsSeq, tsBrk, tsCt, tsDrop, tsRet, tsRetN, tsIf, tsAsg, tgN, tgsNil, tgsCons, tgTup, tgSub, tsFor, tsWhile, tiSeq, tiRng1, tiRng2, tiZip, tb, tv, tc, tac, tan, ttup, tlst, tq, tand, tor, tnot, tife, tandV, torV, tnotV, tneg, tsl, tno, tpt, tcall, tbi, tml, tml0, tmj, tisi, tlRev, tlRng1, tdisp, tps, tlc_eq, tiEnumS, tixK, tiItems, tiVals, ttYes, bt1, btN, setsT, wipeT, endT, List.getElem?_cons_zero, List.getElem?_cons_succ, List.set_cons_zero, List.set_cons_succ]
  refine st_lst (by simp) (nw fun l7 S8 h7 hl7 x8 => ?_)
  have n7 := np u7.at_ h7
  refine st_setd (x8 _ _ u7.at_) rfl (by unfold mK; exact Nat.lt_of_lt_of_le (show 6 < 100 by decide) (by decide)) fun S9 u9 => ?_
  rw [mk2] at u9
  -- what stands behind the table
  have keep : ∀ {a : Addr} {o : MO}, a ≠ p → S6 a = some o → S9 a = some o := fun ha h => u9.get ha (x8 _ _ (u7.get ha h))
  have g1 : S9 l1 = _ := keep n1 (x6 _ _ (x5 _ _ (x4 _ _ (x3 _ _ (x2 _ _ hl1)))))
  have g2 : S9 l2 = _ := keep n2 (x6 _ _ (x5 _ _ (x4 _ _ (x3 _ _ hl2))))
  have g3 : S9 l3 = _ := keep n3 (x6 _ _ (x5 _ _ (x4 _ _ hl3)))
  have g4 : S9 l4 = _ := keep n4 (x6 _ _ (x5 _ _ hl4))
  have g5 : S9 l5 = _ := keep n5 (x6 _ _ hl5)
  have g6 : S9 l6 = _ := keep n6 hl6
  have g7 : S9 l7 = _ := u9.get n7 hl7
  have x9 : Ex S S9 := fun a o h => keep (nn hp0 h) (x6 _ _ (x5 _ _ (x4 _ _ (x3 _ _ (x2 _ _ (x1 _ _ (u0.get (nn hp0 h) h)))))))
  have g0 := u9.at_
  clear hl1 hl2 hl3 hl4 hl5 hl6 hl7 xp1 xp2 xp3 xp4 xp5 xp6 h1 h2 h3 h4 h5' h6 h7 x1 x2 x3 x4 x5 x6 x8 u0 u7 u9 keep np
  rw [hv2]
  refine seq_cut fun v3 hv3 => ?_
  -- behind the choice of places
  have rest : ∀ S' kvs, Ex S S' → S' p = some (.dk kvs) → (∀ S2 A, Ex S' S2 → S2 A = some (.lst [.int 1, .int 2]) → ∃ B, (valT kvs (.inr w)).getD (.adr A) = .adr B ∧ S2 B = some (.lst ((spots 1 sg).map fun (i : Nat) => T.int (i : Int)))) → ∀ (v4 : TTS), (v4 = (tsSeq (tsAsg (tlc (tiSeq (tget2 (tv 1) (tb oIx (tv 0) (tc (.int 0))) (tlst (tac (tc (.int 1)) (tac (tc (.int 2)) tan))))) (bt1 3) ttYes (tcall 1 (spMeasured n) (tac (tb oIx (tv 0) (tv 3)) tan)) [3]) (tgN 2)) (tsRet (ttup (tac (tb oAdd (tc (.int 1)) (tbi oSum (tac (tlc (tiSeq (tv 2)) (bt1 4) ttYes (tb oIx (tv 4) (tc (.int 0))) [4]) tan))) (tac (tb oAdd (tc (.int 1)) (tbi oMaxL (tac (tb oAdd (tlst (tac (tc (.int 0)) tan)) (tlc (tiSeq (tv 2)) (bt1 4) ttYes (tb oIx (tv 4) (tc (.int 1))) [4])) tan))) tan)))))) → v4 (endT Q) [some (T.tup (.str w :: ps)), some (.adr p), none, none, none] S' := by
    intro S' kvs xS hpk hB v4 hv4
    rw [hv4]
    refine seq_cut fun v5 hv5 => ?_
    try simp only [tget2, tsNx, tsSeq, tsBrk, tsCt, tsDrop, tsRet, tsRetN, tsIf, tsAsg, tgN, tgsNil, tgsCons, tgTup, tgSub, tsFor, tsWhile, tiSeq, tiRng1, tiRng2, tiZip, tb, tv, tc, tac, tan, ttup, tlst, tq, tand, tor, tnot, tife, tandV, torV, tnotV, tneg, tsl, tno, tpt, tcall, tbi, tml, tml0, tmj, tisi, tlRev, tlRng1, tdisp, tps, tlc_eq, tiEnumS, tixK, tiItems, tiVals, ttYes, bt1, btN, setsT, wipeT, endT, List.getElem?_cons_zero, List.getElem?_cons_succ, List.set_cons_zero, List.set_cons_succ]
    refine ⟨by unfold isDct; simp only [hpk], ?_⟩
    try simp only [ev_t0, ev_t1, ev_t2, ev_eqs, ev_eqi, ev_intb, ev_inti, ev_add, ev_sub, ev_lt, ev_gt, ev_sl1, ev_in2, ev_lent, ev_isn, Bool.or_false, Bool.or_true, Bool.false_or, Bool.true_or, eqG_f, eqG_t, kq, Bool.not_true, Bool.not_false, if_true, if_false, ite_true, ite_false, reduceIte, s_num_num, s_num_truth, s_num_open, s_num_list, s_num_pair, s_num_either, s_num_left, s_num_right, s_num_thing, s_num_fault, s_num_worth, s_num_table, s_truth_num, s_truth_truth, s_truth_open, s_truth_list, s_truth_pair, s_truth_either, s_truth_left, s_truth_right, s_truth_thing, s_truth_fault, s_truth_worth, s_truth_table, s_open_num, s_open_truth, s_open_open, s_open_list, s_open_pair, s_open_either, s_open_left, s_open_right, s_open_thing, s_open_fault, s_open_worth, s_open_table, s_list_num, s_list_truth, s_list_open, s_list_list, s_list_pair, s_list_either, s_list_left, s_list_right, s_list_thing, s_list_fault, s_list_worth, s_list_table, s_pair_num, s_pair_truth, s_pair_open, s_pair_list, s_pair_pair, s_pair_either, s_pair_left, s_pair_right, s_pair_thing, s_pair_fault, s_pair_worth, s_pair_table, s_either_num, s_either_truth, s_either_open, s_either_list, s_either_pair, s_either_either, s_either_left, s_either_right, s_either_thing, s_either_fault, s_either_worth, s_either_table, s_left_num, s_left_truth, s_left_open, s_left_list, s_left_pair, s_left_either, s_left_left, s_left_right, s_left_thing, s_left_fault, s_left_worth, s_left_table, s_right_num, s_right_truth, s_right_open, s_right_list, s_right_pair, s_right_either, s_right_left, s_right_right, s_right_thing, s_right_fault, s_right_worth, s_right_table, s_thing_num, s_thing_truth, s_thing_open, s_thing_list, s_thing_pair, s_thing_either, s_thing_left, s_thing_right, s_thing_thing, s_thing_fault, s_thing_worth, s_thing_table, s_fault_num, s_fault_truth, s_fault_open, s_fault_list, s_fault_pair, s_fault_either, s_fault_left, s_fault_right, s_fault_thing, s_fault_fault, s_fault_worth, s_fault_table, s_worth_num, s_worth_truth, s_worth_open, s_worth_list, s_worth_pair, s_worth_either, s_worth_left, s_worth_right, s_worth_thing, s_worth_fault, s_worth_worth, s_worth_table, s_table_num, s_table_truth, s_table_open, s_table_list, s_table_pair, s_table_either, s_table_left, s_table_right, s_table_thing, s_table_fault, s_table_worth, s_table_table]
    refine st_lst (by simp) (nw fun A S2 hA hAA x2 => ?_)
    have hpk2 := x2 _ _ hpk
    have hd : dgk S2 p (.str w) = some (valT kvs (.inr w)) := by unfold dgk; simp only [hpk2]; rfl
    simp only [hd]
    obtain ⟨B, eB, hBB⟩ := hB S2 A x2 hAA
    simp only [eB, lstAt_of hBB]
    refine lc_ex (fun i acc => ∃ prs, acc = prs.map prT ∧ Tolds ((inn sg ps).take i) prs) ⟨[], rfl, trivial⟩ fun i acc S3 hA3 ex3 => ⟨lstAt_of (ex3 _ _ hBB), ?_⟩
    obtain ⟨prs, rfl, htd⟩ := hA3
    have hpl := htd.len
    rw [List.getElem?_map]
    cases hx : (spots 1 sg)[i]? with
    | some k =>
      simp only [Option.map_some]
      have hlt := (List.getElem?_eq_some_iff.mp hx).1
      obtain ⟨x, hix, hkx⟩ := spots_get hlen w hx
      rw [List.length_take] at hpl
      refine ⟨_, rfl, Nat.lt_of_lt_of_le (show _ < 100 by rw [List.length_map]; omega) (by decide), fun Rt Rf r1 r2 => ?_⟩
      try simp only [tsNx, tsSeq, tsBrk, tsCt, tsDrop, tsRet, tsRetN, tsIf, tsAsg, tgN, tgsNil, tgsCons, tgTup, tgSub, tsFor, tsWhile, tiSeq, tiRng1, tiRng2, tiZip, tb, tv, tc, tac, tan, ttup, tlst, tq, tand, tor, tnot, tife, tandV, torV, tnotV, tneg, tsl, tno, tpt, tcall, tbi, tml, tml0, tmj, tisi, tlRev, tlRng1, tdisp, tps, tlc_eq, tiEnumS, tixK, tiItems, tiVals, ttYes, bt1, btN, setsT, wipeT, endT, List.getElem?_cons_zero, List.getElem?_cons_succ, List.set_cons_zero, List.set_cons_succ]
      refine st_ixt (v := x) (atI_nat hkx) ⟨rfl, x, rfl, hp.inn x (List.mem_of_getElem? hix), fun a b S4 m1 m2 m3 m4 x4 => ?_⟩
      refine r1 _ S4 x4 ⟨prs ++ [(a, b)], by rw [List.map_append]; rfl, ?_⟩
      rw [take_snoc hix]
      exact htd.snoc ⟨m1, m2, m3, m4⟩
    | none =>
      have := List.getElem?_eq_none_iff.mp hx
      simp only [Option.map_none]
      intro D hD hDD
      rw [List.take_of_length_le (by omega)] at htd hpl
      have x03 := (xS.trans x2).trans ex3
      have hpl2 : prs.length ≤ 5 := by omega
      rw [hv5]
      try simp only [tsNx, tsSeq, tsBrk, tsCt, tsDrop, tsRet, tsRetN, tsIf, tsAsg, tgN, tgsNil, tgsCons, tgTup, tgSub, tsFor, tsWhile, tiSeq, tiRng1, tiRng2, tiZip, tb, tv, tc, tac, tan, ttup, tlst, tq, tand, tor, tnot, tife, tandV, torV, tnotV, tneg, tsl, tno, tpt, tcall, tbi, tml, tml0, tmj, tisi, tlRev, tlRng1, tdisp, tps, tlc_eq, tiEnumS, tixK, tiItems, tiVals, ttYes, bt1, btN, setsT, wipeT, endT, List.getElem?_cons_zero, List.getElem?_cons_succ, List.set_cons_zero, List.set_cons_succ]
      simp only [lstAt_of hDD]
      refine lc_ex (fun i acc => i ≤ prs.length ∧ acc = ((prs.take i).map fun p => (p.1 : Int)).map T.int) ⟨Nat.zero_le _, rfl⟩ fun i acc S5 hA5 ex5 => ⟨lstAt_of (ex5 _ _ hDD), ?_⟩
      obtain ⟨hi5, rfl⟩ := hA5
      rw [List.getElem?_map]
      cases hy : prs[i]? with
      | some y =>
        simp only [Option.map_some]
        refine ⟨_, rfl, Nat.lt_of_lt_of_le (show _ < 100 by rw [List.length_map, List.length_map, List.length_take]; omega) (by decide), fun Rt Rf r1 r2 => ?_⟩
        try simp only [prT, tsNx, tsSeq, tsBrk, tsCt, tsDrop, tsRet, tsRetN, tsIf, tsAsg, tgN, tgsNil, tgsCons, tgTup, tgSub, tsFor, tsWhile, tiSeq, tiRng1, tiRng2, tiZip, tb, tv, tc, tac, tan, ttup, tlst, tq, tand, tor, tnot, tife, tandV, torV, tnotV, tneg, tsl, tno, tpt, tcall, tbi, tml, tml0, tmj, tisi, tlRev, tlRng1, tdisp, tps, tlc_eq, tiEnumS, tixK, tiItems, tiVals, ttYes, bt1, btN, setsT, wipeT, endT, List.getElem?_cons_zero, List.getElem?_cons_succ, List.set_cons_zero, List.set_cons_succ]
        try simp only [ev_t0, ev_t1, ev_t2, ev_eqs, ev_eqi, ev_intb, ev_inti, ev_add, ev_sub, ev_lt, ev_gt, ev_sl1, ev_in2, ev_lent, ev_isn, Bool.or_false, Bool.or_true, Bool.false_or, Bool.true_or, eqG_f, eqG_t, kq, Bool.not_true, Bool.not_false, if_true, if_false, ite_true, ite_false, reduceIte, s_num_num, s_num_truth, s_num_open, s_num_list, s_num_pair, s_num_either, s_num_left, s_num_right, s_num_thing, s_num_fault, s_num_worth, s_num_table, s_truth_num, s_truth_truth, s_truth_open, s_truth_list, s_truth_pair, s_truth_either, s_truth_left, s_truth_right, s_truth_thing, s_truth_fault, s_truth_worth, s_truth_table, s_open_num, s_open_truth, s_open_open, s_open_list, s_open_pair, s_open_either, s_open_left, s_open_right, s_open_thing, s_open_fault, s_open_worth, s_open_table, s_list_num, s_list_truth, s_list_open, s_list_list, s_list_pair, s_list_either, s_list_left, s_list_right, s_list_thing, s_list_fault, s_list_worth, s_list_table, s_pair_num, s_pair_truth, s_pair_open, s_pair_list, s_pair_pair, s_pair_either, s_pair_left, s_pair_right, s_pair_thing, s_pair_fault, s_pair_worth, s_pair_table, s_either_num, s_either_truth, s_either_open, s_either_list, s_either_pair, s_either_either, s_either_left, s_either_right, s_either_thing, s_either_fault, s_either_worth, s_either_table, s_left_num, s_left_truth, s_left_open, s_left_list, s_left_pair, s_left_either, s_left_left, s_left_right, s_left_thing, s_left_fault, s_left_worth, s_left_table, s_right_num, s_right_truth, s_right_open, s_right_list, s_right_pair, s_right_either, s_right_left, s_right_right, s_right_thing, s_right_fault, s_right_worth, s_right_table, s_thing_num, s_thing_truth, s_thing_open, s_thing_list, s_thing_pair, s_thing_either, s_thing_left, s_thing_right, s_thing_thing, s_thing_fault, s_thing_worth, s_thing_table, s_fault_num, s_fault_truth, s_fault_open, s_fault_list, s_fault_pair, s_fault_either, s_fault_left, s_fault_right, s_fault_thing, s_fault_fault, s_fault_worth, s_fault_table, s_worth_num, s_worth_truth, s_worth_open, s_worth_list, s_worth_pair, s_worth_either, s_worth_left, s_worth_right, s_worth_thing, s_worth_fault, s_worth_worth, s_worth_table, s_table_num, s_table_truth, s_table_open, s_table_list, s_table_pair, s_table_either, s_table_left, s_table_right, s_table_thing, s_table_fault, s_table_worth, s_table_table]
        refine r1 _ S5 (fun _ _ e => e) ⟨(List.getElem?_eq_some_iff.mp hy).1, ?_⟩
        rw [take_snoc hy, List.map_append, List.map_append]; rfl
      | none =>
        have := List.getElem?_eq_none_iff.mp hy
        simp only [Option.map_none]
        intro E hE hEE
        rw [List.take_of_length_le (by omega)] at hEE
        refine st_sum hEE ?_
        refine st_add ?_
        refine st_lst (by simp) (nw fun F S6 hF hFF x6 => ?_)
        have hDD6 := x6 _ _ (ex5 _ _ hDD)
        simp only [lstAt_of hDD6]
        refine lc_ex (fun i acc => i ≤ prs.length ∧ acc = ((prs.take i).map fun p => (p.2 : Int)).map T.int) ⟨Nat.zero_le _, rfl⟩ fun i acc S7 hA7 ex7 => ⟨lstAt_of (ex7 _ _ hDD6), ?_⟩
        obtain ⟨hi7, rfl⟩ := hA7
        rw [List.getElem?_map]
        cases hz : prs[i]? with
        | some y =>
          simp only [Option.map_some]
          refine ⟨_, rfl, Nat.lt_of_lt_of_le (show _ < 100 by rw [List.length_map, List.length_map, List.length_take]; omega) (by decide), fun Rt Rf r1 r2 => ?_⟩
          try simp only [prT, tsNx, tsSeq, tsBrk, tsCt, tsDrop, tsRet, tsRetN, tsIf, tsAsg, tgN, tgsNil, tgsCons, tgTup, tgSub, tsFor, tsWhile, tiSeq, tiRng1, tiRng2, tiZip, tb, tv, tc, tac, tan, ttup, tlst, tq, tand, tor, tnot, tife, tandV, torV, tnotV, tneg, tsl, tno, tpt, tcall, tbi, tml, tml0, tmj, tisi, tlRev, tlRng1, tdisp, tps, tlc_eq, tiEnumS, tixK, tiItems, tiVals, ttYes, bt1, btN, setsT, wipeT, endT, List.getElem?_cons_zero, List.getElem?_cons_succ, List.set_cons_zero, List.set_cons_succ]
          try simp only [ev_t0, ev_t1, ev_t2, ev_eqs, ev_eqi, ev_intb, ev_inti, ev_add, ev_sub, ev_lt, ev_gt, ev_sl1, ev_in2, ev_lent, ev_isn, Bool.or_false, Bool.or_true, Bool.false_or, Bool.true_or, eqG_f, eqG_t, kq, Bool.not_true, Bool.not_false, if_true, if_false, ite_true, ite_false, reduceIte, s_num_num, s_num_truth, s_num_open, s_num_list, s_num_pair, s_num_either, s_num_left, s_num_right, s_num_thing, s_num_fault, s_num_worth, s_num_table, s_truth_num, s_truth_truth, s_truth_open, s_truth_list, s_truth_pair, s_truth_either, s_truth_left, s_truth_right, s_truth_thing, s_truth_fault, s_truth_worth, s_truth_table, s_open_num, s_open_truth, s_open_open, s_open_list, s_open_pair, s_open_either, s_open_left, s_open_right, s_open_thing, s_open_fault, s_open_worth, s_open_table, s_list_num, s_list_truth, s_list_open, s_list_list, s_list_pair, s_list_either, s_list_left, s_list_right, s_list_thing, s_list_fault, s_list_worth, s_list_table, s_pair_num, s_pair_truth, s_pair_open, s_pair_list, s_pair_pair, s_pair_either, s_pair_left, s_pair_right, s_pair_thing, s_pair_fault, s_pair_worth, s_pair_table, s_either_num, s_either_truth, s_either_open, s_either_list, s_either_pair, s_either_either, s_either_left, s_either_right, s_either_thing, s_either_fault, s_either_worth, s_either_table, s_left_num, s_left_truth, s_left_open, s_left_list, s_left_pair, s_left_either, s_left_left, s_left_right, s_left_thing, s_left_fault, s_left_worth, s_left_table, s_right_num, s_right_truth, s_right_open, s_right_list, s_right_pair, s_right_either, s_right_left, s_right_right, s_right_thing, s_right_fault, s_right_worth, s_right_table, s_thing_num, s_thing_truth, s_thing_open, s_thing_list, s_thing_pair, s_thing_either, s_thing_left, s_thing_right, s_thing_thing, s_thing_fault, s_thing_worth, s_thing_table, s_fault_num, s_fault_truth, s_fault_open, s_fault_list, s_fault_pair, s_fault_either, s_fault_left, s_fault_right, s_fault_thing, s_fault_fault, s_fault_worth, s_fault_table, s_worth_num, s_worth_truth, s_worth_open, s_worth_list, s_worth_pair, s_worth_either, s_worth_left, s_worth_right, s_worth_thing, s_worth_fault, s_worth_worth, s_worth_table, s_table_num, s_table_truth, s_table_open, s_table_list, s_table_pair, s_table_either, s_table_left, s_table_right, s_table_thing, s_table_fault, s_table_worth, s_table_table]
          refine r1 _ S7 (fun _ _ e => e) ⟨(List.getElem?_eq_some_iff.mp hz).1, ?_⟩
          rw [take_snoc hz, List.map_append, List.map_append]; rfl
        | none =>
          have := List.getElem?_eq_none_iff.mp hz
          simp only [Option.map_none]
          intro G hG hGG
          rw [List.take_of_length_le (by omega)] at hGG
          refine st_addl (ex7 _ _ hFF) hGG (z4000 (by simp; omega)) (nw fun J S8 hJ hJJ x8 => ?_)
          have eJ : [T.int 0] ++ (prs.map fun p => (p.2 : Int)).map T.int = ((0 :: prs.map fun p => (p.2 : Int)) : List Int).map T.int := rfl
          rw [eJ] at hJJ
          unfold oMaxL
          simp only [lstAt_of hJJ, Option.bind_some, intsT_map]
          refine ⟨by simp, fun m hm hmax => ?_⟩
          refine st_add ?_
          refine ⟨z4000 (by simp), ?_⟩
          have m0 : 0 ≤ m := hmax 0 (by simp)
          have := fin prs m.toNat S8 htd (fun p hp => by
            have := hmax (p.2 : Int) (by simp; exact .inr ⟨p.1, p.2, hp, rfl⟩)
            omega) ((((x03.trans ex5).trans x6).trans ex7).trans x8)
          have e1 : (1 : Int) + (prs.map fun p => (p.1 : Int)).sum = ((1 + (prs.map (·.1)).sum : Nat) : Int) := by
            have := sum_nat (prs.map (·.1))
            rw [List.map_map] at this
            rw [show (prs.map fun p => (p.1 : Int)) = prs.map ((fun n : Nat => (n : Int)) ∘ fun x => x.1) from rfl, this]; omega
          have e2 : (1 : Int) + m = ((m.toNat + 1 : Nat) : Int) := by omega
          rw [e1, e2]
          exact this
  try simp only [tsNx, tsSeq, tsBrk, tsCt, tsDrop, tsRet, tsRetN, tsIf, tsAsg, tgN, tgsNil, tgsCons, tgTup, tgSub, tsFor, tsWhile, tiSeq, tiRng1, tiRng2, tiZip, tb, tv, tc, tac, tan, ttup, tlst, tq, tand, tor, tnot, tife, tandV, torV, tnotV, tneg, tsl, tno, tpt, tcall, tbi, tml, tml0, tmj, tisi, tlRev, tlRng1, tdisp, tps, tlc_eq, tiEnumS, tixK, tiItems, tiVals, ttYes, bt1, btN, setsT, wipeT, endT, List.getElem?_cons_zero, List.getElem?_cons_succ, List.set_cons_zero, List.set_cons_succ]
  try simp only [ev_t0, ev_t1, ev_t2, ev_eqs, ev_eqi, ev_intb, ev_inti, ev_add, ev_sub, ev_lt, ev_gt, ev_sl1, ev_in2, ev_lent, ev_isn, Bool.or_false, Bool.or_true, Bool.false_or, Bool.true_or, eqG_f, eqG_t, kq, Bool.not_true, Bool.not_false, if_true, if_false, ite_true, ite_false, reduceIte, s_num_num, s_num_truth, s_num_open, s_num_list, s_num_pair, s_num_either, s_num_left, s_num_right, s_num_thing, s_num_fault, s_num_worth, s_num_table, s_truth_num, s_truth_truth, s_truth_open, s_truth_list, s_truth_pair, s_truth_either, s_truth_left, s_truth_right, s_truth_thing, s_truth_fault, s_truth_worth, s_truth_table, s_open_num, s_open_truth, s_open_open, s_open_list, s_open_pair, s_open_either, s_open_left, s_open_right, s_open_thing, s_open_fault, s_open_worth, s_open_table, s_list_num, s_list_truth, s_list_open, s_list_list, s_list_pair, s_list_either, s_list_left, s_list_right, s_list_thing, s_list_fault, s_list_worth, s_list_table, s_pair_num, s_pair_truth, s_pair_open, s_pair_list, s_pair_pair, s_pair_either, s_pair_left, s_pair_right, s_pair_thing, s_pair_fault, s_pair_worth, s_pair_table, s_either_num, s_either_truth, s_either_open, s_either_list, s_either_pair, s_either_either, s_either_left, s_either_right, s_either_thing, s_either_fault, s_either_worth, s_either_table, s_left_num, s_left_truth, s_left_open, s_left_list, s_left_pair, s_left_either, s_left_left, s_left_right, s_left_thing, s_left_fault, s_left_worth, s_left_table, s_right_num, s_right_truth, s_right_open, s_right_list, s_right_pair, s_right_either, s_right_left, s_right_right, s_right_thing, s_right_fault, s_right_worth, s_right_table, s_thing_num, s_thing_truth, s_thing_open, s_thing_list, s_thing_pair, s_thing_either, s_thing_left, s_thing_right, s_thing_thing, s_thing_fault, s_thing_worth, s_thing_table, s_fault_num, s_fault_truth, s_fault_open, s_fault_list, s_fault_pair, s_fault_either, s_fault_left, s_fault_right, s_fault_thing, s_fault_fault, s_fault_worth, s_fault_table, s_worth_num, s_worth_truth, s_worth_open, s_worth_list, s_worth_pair, s_worth_either, s_worth_left, s_worth_right, s_worth_thing, s_worth_fault, s_worth_worth, s_worth_table, s_table_num, s_table_truth, s_table_open, s_table_list, s_table_pair, s_table_either, s_table_left, s_table_right, s_table_thing, s_table_fault, s_table_worth, s_table_table]
  refine ⟨z4000 (by simp), ?_⟩
  refine st_inS (xs := ["name", "num", "truth", "none", "fault"]) ?_
  have nl : ∀ {xs : List Str}, w ∈ xs → (∀ x ∈ xs, x ∉ (["name", "num", "truth", "none", "fault"] : List Str)) → decide (w ∈ (["name", "num", "truth", "none", "fault"] : List Str)) = false := fun h g => decide_eq_false (g w h)
  have nt : ∀ {xs : List Str}, w ∈ xs → (∀ x ∈ xs, x ∉ (["first", "second", "if"] : List Str)) → decide (w ∈ (["first", "second", "if"] : List Str)) = false := fun h g => decide_eq_false (g w h)
  rcases pos_case hw with ⟨c1, c2⟩ | ⟨c1, c2⟩ | c
  · -- nothing within
    rw [decide_eq_true c1]
    simp only [kq]
    refine ⟨z4000 (by simp), ?_⟩
    have hi0 : inn sg ps = [] := List.length_eq_zero_iff.mp (by rw [← hil, c2]; rfl)
    have := fin [] 0 S9 (by rw [hi0]; trivial) (by simp) x9
    exact this
  · -- all within are terms
    rw [nl c1 (by decide +kernel)]
    simp only [kq]
    rw [hv3]
    refine seq_cut fun v4 hv4 => ?_
    try simp only [tsNx, tsSeq, tsBrk, tsCt, tsDrop, tsRet, tsRetN, tsIf, tsAsg, tgN, tgsNil, tgsCons, tgTup, tgSub, tsFor, tsWhile, tiSeq, tiRng1, tiRng2, tiZip, tb, tv, tc, tac, tan, ttup, tlst, tq, tand, tor, tnot, tife, tandV, torV, tnotV, tneg, tsl, tno, tpt, tcall, tbi, tml, tml0, tmj, tisi, tlRev, tlRng1, tdisp, tps, tlc_eq, tiEnumS, tixK, tiItems, tiVals, ttYes, bt1, btN, setsT, wipeT, endT, List.getElem?_cons_zero, List.getElem?_cons_succ, List.set_cons_zero, List.set_cons_succ]
    try simp only [ev_t0, ev_t1, ev_t2, ev_eqs, ev_eqi, ev_intb, ev_inti, ev_add, ev_sub, ev_lt, ev_gt, ev_sl1, ev_in2, ev_lent, ev_isn, Bool.or_false, Bool.or_true, Bool.false_or, Bool.true_or, eqG_f, eqG_t, kq, Bool.not_true, Bool.not_false, if_true, if_false, ite_true, ite_false, reduceIte, s_num_num, s_num_truth, s_num_open, s_num_list, s_num_pair, s_num_either, s_num_left, s_num_right, s_num_thing, s_num_fault, s_num_worth, s_num_table, s_truth_num, s_truth_truth, s_truth_open, s_truth_list, s_truth_pair, s_truth_either, s_truth_left, s_truth_right, s_truth_thing, s_truth_fault, s_truth_worth, s_truth_table, s_open_num, s_open_truth, s_open_open, s_open_list, s_open_pair, s_open_either, s_open_left, s_open_right, s_open_thing, s_open_fault, s_open_worth, s_open_table, s_list_num, s_list_truth, s_list_open, s_list_list, s_list_pair, s_list_either, s_list_left, s_list_right, s_list_thing, s_list_fault, s_list_worth, s_list_table, s_pair_num, s_pair_truth, s_pair_open, s_pair_list, s_pair_pair, s_pair_either, s_pair_left, s_pair_right, s_pair_thing, s_pair_fault, s_pair_worth, s_pair_table, s_either_num, s_either_truth, s_either_open, s_either_list, s_either_pair, s_either_either, s_either_left, s_either_right, s_either_thing, s_either_fault, s_either_worth, s_either_table, s_left_num, s_left_truth, s_left_open, s_left_list, s_left_pair, s_left_either, s_left_left, s_left_right, s_left_thing, s_left_fault, s_left_worth, s_left_table, s_right_num, s_right_truth, s_right_open, s_right_list, s_right_pair, s_right_either, s_right_left, s_right_right, s_right_thing, s_right_fault, s_right_worth, s_right_table, s_thing_num, s_thing_truth, s_thing_open, s_thing_list, s_thing_pair, s_thing_either, s_thing_left, s_thing_right, s_thing_thing, s_thing_fault, s_thing_worth, s_thing_table, s_fault_num, s_fault_truth, s_fault_open, s_fault_list, s_fault_pair, s_fault_either, s_fault_left, s_fault_right, s_fault_thing, s_fault_fault, s_fault_worth, s_fault_table, s_worth_num, s_worth_truth, s_worth_open, s_worth_list, s_worth_pair, s_worth_either, s_worth_left, s_worth_right, s_worth_thing, s_worth_fault, s_worth_worth, s_worth_table, s_table_num, s_table_truth, s_table_open, s_table_list, s_table_pair, s_table_either, s_table_left, s_table_right, s_table_thing, s_table_fault, s_table_worth, s_table_table]
    refine ⟨z4000 (by simp), ?_⟩
    refine st_inS (xs := ["first", "second", "if"]) ?_
    rw [decide_eq_true c1]
    simp only [kq, tlRng2]
    try simp only [tsNx, tsSeq, tsBrk, tsCt, tsDrop, tsRet, tsRetN, tsIf, tsAsg, tgN, tgsNil, tgsCons, tgTup, tgSub, tsFor, tsWhile, tiSeq, tiRng1, tiRng2, tiZip, tb, tv, tc, tac, tan, ttup, tlst, tq, tand, tor, tnot, tife, tandV, torV, tnotV, tneg, tsl, tno, tpt, tcall, tbi, tml, tml0, tmj, tisi, tlRev, tlRng1, tdisp, tps, tlc_eq, tiEnumS, tixK, tiItems, tiVals, ttYes, bt1, btN, setsT, wipeT, endT, List.getElem?_cons_zero, List.getElem?_cons_succ, List.set_cons_zero, List.set_cons_succ]
    try simp only [ev_t0, ev_t1, ev_t2, ev_eqs, ev_eqi, ev_intb, ev_inti, ev_add, ev_sub, ev_lt, ev_gt, ev_sl1, ev_in2, ev_lent, ev_isn, Bool.or_false, Bool.or_true, Bool.false_or, Bool.true_or, eqG_f, eqG_t, kq, Bool.not_true, Bool.not_false, if_true, if_false, ite_true, ite_false, reduceIte, s_num_num, s_num_truth, s_num_open, s_num_list, s_num_pair, s_num_either, s_num_left, s_num_right, s_num_thing, s_num_fault, s_num_worth, s_num_table, s_truth_num, s_truth_truth, s_truth_open, s_truth_list, s_truth_pair, s_truth_either, s_truth_left, s_truth_right, s_truth_thing, s_truth_fault, s_truth_worth, s_truth_table, s_open_num, s_open_truth, s_open_open, s_open_list, s_open_pair, s_open_either, s_open_left, s_open_right, s_open_thing, s_open_fault, s_open_worth, s_open_table, s_list_num, s_list_truth, s_list_open, s_list_list, s_list_pair, s_list_either, s_list_left, s_list_right, s_list_thing, s_list_fault, s_list_worth, s_list_table, s_pair_num, s_pair_truth, s_pair_open, s_pair_list, s_pair_pair, s_pair_either, s_pair_left, s_pair_right, s_pair_thing, s_pair_fault, s_pair_worth, s_pair_table, s_either_num, s_either_truth, s_either_open, s_either_list, s_either_pair, s_either_either, s_either_left, s_either_right, s_either_thing, s_either_fault, s_either_worth, s_either_table, s_left_num, s_left_truth, s_left_open, s_left_list, s_left_pair, s_left_either, s_left_left, s_left_right, s_left_thing, s_left_fault, s_left_worth, s_left_table, s_right_num, s_right_truth, s_right_open, s_right_list, s_right_pair, s_right_either, s_right_left, s_right_right, s_right_thing, s_right_fault, s_right_worth, s_right_table, s_thing_num, s_thing_truth, s_thing_open, s_thing_list, s_thing_pair, s_thing_either, s_thing_left, s_thing_right, s_thing_thing, s_thing_fault, s_thing_worth, s_thing_table, s_fault_num, s_fault_truth, s_fault_open, s_fault_list, s_fault_pair, s_fault_either, s_fault_left, s_fault_right, s_fault_thing, s_fault_fault, s_fault_worth, s_fault_table, s_worth_num, s_worth_truth, s_worth_open, s_worth_list, s_worth_pair, s_worth_either, s_worth_left, s_worth_right, s_worth_thing, s_worth_fault, s_worth_worth, s_worth_table, s_table_num, s_table_truth, s_table_open, s_table_list, s_table_pair, s_table_either, s_table_left, s_table_right, s_table_thing, s_table_fault, s_table_worth, s_table_table]
    refine ⟨⟨by omega, by omega, by omega, by simp; omega⟩, nw fun l8 S10 h8 hl8 x10 => ?_⟩
    have n8 : l8 ≠ p := fun z => by rw [z, g0] at h8; cases h8
    try simp only [ev_t0, ev_t1, ev_t2, ev_eqs, ev_eqi, ev_intb, ev_inti, ev_add, ev_sub, ev_lt, ev_gt, ev_sl1, ev_in2, ev_lent, ev_isn, Bool.or_false, Bool.or_true, Bool.false_or, Bool.true_or, eqG_f, eqG_t, kq, Bool.not_true, Bool.not_false, if_true, if_false, ite_true, ite_false, reduceIte, s_num_num, s_num_truth, s_num_open, s_num_list, s_num_pair, s_num_either, s_num_left, s_num_right, s_num_thing, s_num_fault, s_num_worth, s_num_table, s_truth_num, s_truth_truth, s_truth_open, s_truth_list, s_truth_pair, s_truth_either, s_truth_left, s_truth_right, s_truth_thing, s_truth_fault, s_truth_worth, s_truth_table, s_open_num, s_open_truth, s_open_open, s_open_list, s_open_pair, s_open_either, s_open_left, s_open_right, s_open_thing, s_open_fault, s_open_worth, s_open_table, s_list_num, s_list_truth, s_list_open, s_list_list, s_list_pair, s_list_either, s_list_left, s_list_right, s_list_thing, s_list_fault, s_list_worth, s_list_table, s_pair_num, s_pair_truth, s_pair_open, s_pair_list, s_pair_pair, s_pair_either, s_pair_left, s_pair_right, s_pair_thing, s_pair_fault, s_pair_worth, s_pair_table, s_either_num, s_either_truth, s_either_open, s_either_list, s_either_pair, s_either_either, s_either_left, s_either_right, s_either_thing, s_either_fault, s_either_worth, s_either_table, s_left_num, s_left_truth, s_left_open, s_left_list, s_left_pair, s_left_either, s_left_left, s_left_right, s_left_thing, s_left_fault, s_left_worth, s_left_table, s_right_num, s_right_truth, s_right_open, s_right_list, s_right_pair, s_right_either, s_right_left, s_right_right, s_right_thing, s_right_fault, s_right_worth, s_right_table, s_thing_num, s_thing_truth, s_thing_open, s_thing_list, s_thing_pair, s_thing_either, s_thing_left, s_thing_right, s_thing_thing, s_thing_fault, s_thing_worth, s_thing_table, s_fault_num, s_fault_truth, s_fault_open, s_fault_list, s_fault_pair, s_fault_either, s_fault_left, s_fault_right, s_fault_thing, s_fault_fault, s_fault_worth, s_fault_table, s_worth_num, s_worth_truth, s_worth_open, s_worth_list, s_worth_pair, s_worth_either, s_worth_left, s_worth_right, s_worth_thing, s_worth_fault, s_worth_worth, s_worth_table, s_table_num, s_table_truth, s_table_open, s_table_list, s_table_pair, s_table_either, s_table_left, s_table_right, s_table_thing, s_table_fault, s_table_worth, s_table_table]
    refine st_setd (x10 _ _ g0) rfl (by unfold mK; exact Nat.lt_of_lt_of_le (show 7 < 100 by decide) (by decide)) fun S11 u11 => ?_
    refine rest S11 _ (fun a o h => u11.get (nn hp0 h) (x10 _ _ (x9 _ _ h))) u11.at_ (fun S2 A x2 hA => ⟨l8, by rw [valT_putsame]; rfl, ?_⟩) v4 hv4
    refine x2 _ _ ?_
    rw [u11.get n8 hl8, c2]
    congr 2
    rw [List.map_map]
    have : ∀ (m : Nat) (k : Nat), rngT (k : Int) m = (List.range m).map ((fun i : Nat => T.int (i : Int)) ∘ (k + ·)) := by
      intro m
      induction m with
      | zero => intro k; rfl
      | succ m ih =>
        intro k
        rw [List.range_succ_eq_map, List.map_cons, List.map_map]
        show T.int (k : Int) :: rngT ((k : Int) + 1) m = _
        have e := ih (k + 1)
        rw [show ((k + 1 : Nat) : Int) = (k : Int) + 1 by omega] at e
        rw [e]
        congr 1
        refine List.map_congr_left fun i _ => ?_
        show T.int _ = T.int _
        congr 2
        show k + 1 + i = k + (i + 1)
        omega
    have e := this sg.length 1
    rw [List.length_cons, hlen] at *
    rw [show ((((ps.length + 1 : Nat) : Int)) - 1).toNat = ps.length by omega]
    exact e
  · have h1 : decide (w ∈ (["name", "num", "truth", "none", "fault"] : List Str)) = false := by
      rcases c with ⟨rfl, _⟩ | ⟨rfl, _⟩ | ⟨rfl, _⟩ | ⟨rfl, _⟩ | ⟨rfl, _⟩ | ⟨rfl, _⟩ | ⟨rfl, _⟩ | ⟨c, _⟩
      all_goals first | decide +kernel | exact nl c (by decide +kernel)
    have h2 : decide (w ∈ (["first", "second", "if"] : List Str)) = false := by
      rcases c with ⟨rfl, _⟩ | ⟨rfl, _⟩ | ⟨rfl, _⟩ | ⟨rfl, _⟩ | ⟨rfl, _⟩ | ⟨rfl, _⟩ | ⟨rfl, _⟩ | ⟨c, _⟩
      all_goals first | decide +kernel | exact nt c (by decide +kernel)
    rw [h1]
    simp only [kq]
    rw [hv3]
    refine seq_cut fun v4 hv4 => ?_
    try simp only [tsNx, tsSeq, tsBrk, tsCt, tsDrop, tsRet, tsRetN, tsIf, tsAsg, tgN, tgsNil, tgsCons, tgTup, tgSub, tsFor, tsWhile, tiSeq, tiRng1, tiRng2, tiZip, tb, tv, tc, tac, tan, ttup, tlst, tq, tand, tor, tnot, tife, tandV, torV, tnotV, tneg, tsl, tno, tpt, tcall, tbi, tml, tml0, tmj, tisi, tlRev, tlRng1, tdisp, tps, tlc_eq, tiEnumS, tixK, tiItems, tiVals, ttYes, bt1, btN, setsT, wipeT, endT, List.getElem?_cons_zero, List.getElem?_cons_succ, List.set_cons_zero, List.set_cons_succ]
    try simp only [ev_t0, ev_t1, ev_t2, ev_eqs, ev_eqi, ev_intb, ev_inti, ev_add, ev_sub, ev_lt, ev_gt, ev_sl1, ev_in2, ev_lent, ev_isn, Bool.or_false, Bool.or_true, Bool.false_or, Bool.true_or, eqG_f, eqG_t, kq, Bool.not_true, Bool.not_false, if_true, if_false, ite_true, ite_false, reduceIte, s_num_num, s_num_truth, s_num_open, s_num_list, s_num_pair, s_num_either, s_num_left, s_num_right, s_num_thing, s_num_fault, s_num_worth, s_num_table, s_truth_num, s_truth_truth, s_truth_open, s_truth_list, s_truth_pair, s_truth_either, s_truth_left, s_truth_right, s_truth_thing, s_truth_fault, s_truth_worth, s_truth_table, s_open_num, s_open_truth, s_open_open, s_open_list, s_open_pair, s_open_either, s_open_left, s_open_right, s_open_thing, s_open_fault, s_open_worth, s_open_table, s_list_num, s_list_truth, s_list_open, s_list_list, s_list_pair, s_list_either, s_list_left, s_list_right, s_list_thing, s_list_fault, s_list_worth, s_list_table, s_pair_num, s_pair_truth, s_pair_open, s_pair_list, s_pair_pair, s_pair_either, s_pair_left, s_pair_right, s_pair_thing, s_pair_fault, s_pair_worth, s_pair_table, s_either_num, s_either_truth, s_either_open, s_either_list, s_either_pair, s_either_either, s_either_left, s_either_right, s_either_thing, s_either_fault, s_either_worth, s_either_table, s_left_num, s_left_truth, s_left_open, s_left_list, s_left_pair, s_left_either, s_left_left, s_left_right, s_left_thing, s_left_fault, s_left_worth, s_left_table, s_right_num, s_right_truth, s_right_open, s_right_list, s_right_pair, s_right_either, s_right_left, s_right_right, s_right_thing, s_right_fault, s_right_worth, s_right_table, s_thing_num, s_thing_truth, s_thing_open, s_thing_list, s_thing_pair, s_thing_either, s_thing_left, s_thing_right, s_thing_thing, s_thing_fault, s_thing_worth, s_thing_table, s_fault_num, s_fault_truth, s_fault_open, s_fault_list, s_fault_pair, s_fault_either, s_fault_left, s_fault_right, s_fault_thing, s_fault_fault, s_fault_worth, s_fault_table, s_worth_num, s_worth_truth, s_worth_open, s_worth_list, s_worth_pair, s_worth_either, s_worth_left, s_worth_right, s_worth_thing, s_worth_fault, s_worth_worth, s_worth_table, s_table_num, s_table_truth, s_table_open, s_table_list, s_table_pair, s_table_either, s_table_left, s_table_right, s_table_thing, s_table_fault, s_table_worth, s_table_table]
    refine ⟨z4000 (by simp), ?_⟩
    refine st_inS (xs := ["first", "second", "if"]) ?_
    rw [h2]
    simp only [kq]
    refine rest S9 _ x9 g0 (fun S2 A x2 hA => ?_) v4 hv4
    clear h1 h2 hw hp hr q fin rest
    rcases c with ⟨rfl, e⟩ | ⟨rfl, e⟩ | ⟨rfl, e⟩ | ⟨rfl, e⟩ | ⟨rfl, e⟩ | ⟨rfl, e⟩ | ⟨rfl, e⟩ | ⟨c, e⟩
    · exact ⟨l1, by show (valT _ _).getD _ = _; simp only [mK, gK, List.cons_append, List.nil_append, List.map_cons, List.map_nil]; repeat (first | rw [vp] | rw [vn (by decide +kernel)]); rfl, by rw [e]; exact x2 _ _ g1⟩
    · exact ⟨l2, by show (valT _ _).getD _ = _; simp only [mK, gK, List.cons_append, List.nil_append, List.map_cons, List.map_nil]; repeat (first | rw [vp] | rw [vn (by decide +kernel)]); rfl, by rw [e]; exact x2 _ _ g2⟩
    · exact ⟨l3, by show (valT _ _).getD _ = _; simp only [mK, gK, List.cons_append, List.nil_append, List.map_cons, List.map_nil]; repeat (first | rw [vp] | rw [vn (by decide +kernel)]); rfl, by rw [e]; exact x2 _ _ g3⟩
    · exact ⟨l4, by show (valT _ _).getD _ = _; simp only [mK, gK, List.cons_append, List.nil_append, List.map_cons, List.map_nil]; repeat (first | rw [vp] | rw [vn (by decide +kernel)]); rfl, by rw [e]; exact x2 _ _ g4⟩
    · exact ⟨l5, by show (valT _ _).getD _ = _; simp only [mK, gK, List.cons_append, List.nil_append, List.map_cons, List.map_nil]; repeat (first | rw [vp] | rw [vn (by decide +kernel)]); rfl, by rw [e]; exact x2 _ _ g5⟩
    · exact ⟨l6, by show (valT _ _).getD _ = _; simp only [mK, gK, List.cons_append, List.nil_append, List.map_cons, List.map_nil]; repeat (first | rw [vp] | rw [vn (by decide +kernel)]); rfl, by rw [e]; exact x2 _ _ g6⟩
    · exact ⟨l7, by show (valT _ _).getD _ = _; simp only [mK, gK, List.cons_append, List.nil_append, List.map_cons, List.map_nil]; repeat (first | rw [vp] | rw [vn (by decide +kernel)]); rfl, by rw [e]; exact x2 _ _ g7⟩
    · refine ⟨A, ?_, by rw [e]; exact hA⟩
      have : valT ((mK l1 l2 l3 l4 l5 l6 ++ [(Str.ofString "rounds", T.adr l7)]).map gK) (.inr w) = none := by
        refine valT_no ?_
        have g : ∀ x ∈ (["call", "plus", "less", "pair", "more", "alike"] : List Str), x ∉ (["fun", "left", "right", "case", "fold", "built", "rounds"] : List Str) := by decide +kernel
        exact g w c
      rw [this]; rfl
end LAW
set_option Elab.async false
set_option linter.all false
set_option maxRecDepth 100000
set_option maxHeartbeats 1000000
/-! D18: what is known, as a dict; calls of known functions. -/
namespace LAW
open PySem PySem.Spec PyProof.Rows L2 TL
def kK (p : Str × Kd) : Key × T := (.inr p.1, p.2.t)
theorem pairs_known : ∀ ks : List (Str × Kd), pairsT (ks.map LAW.pairT) = some (ks.map fun p => (T.str p.1, p.2.t))
  | [] => rfl
  | p :: r => by
    rw [List.map_cons, List.map_cons]
    show (pairsT (r.map LAW.pairT)).map ((T.str p.1, p.2.t) :: ·) = _
    rw [pairs_known r]; rfl
theorem keys_known : ∀ ks : List (Str × Kd), keysOf (ks.map fun p => (T.str p.1, p.2.t)) = some (ks.map kK)
  | [] => rfl
  | p :: r => by
    rw [List.map_cons, List.map_cons]
    show (keyT (.str p.1)).bind (fun k => (keysOf (r.map fun p => (T.str p.1, p.2.t))).map fun ks => (k, p.2.t) :: ks) = _
    rw [keys_known r]; rfl
theorem put_known {d : Int} {ms : List (Str × Kd)} {p : Str × Kd} (h : Knd d ms) (hp : low9 p.1 ∧ Kg d p.2) : ∃ ms', putT (ms.map kK) (.inr p.1) p.2.t = ms'.map kK ∧ Knd d ms' ∧ ms'.length ≤ ms.length + 1 := by
  unfold putT
  split
  · refine ⟨ms.map fun q => if q.1 = p.1 then (q.1, p.2) else q, ?_, ?_, ?_⟩
    · rw [List.map_map, List.map_map]
      refine List.map_congr_left fun q _ => ?_
      show (if (Sum.inr q.1 : Key) = .inr p.1 then _ else _) = kK (if q.1 = p.1 then _ else _)
      by_cases e : q.1 = p.1
      · rw [if_pos e, if_pos (by rw [e])]; rfl
      · rw [if_neg e, if_neg (fun z => e (by injection z))]
    · intro q hq
      obtain ⟨r, hr, rfl⟩ := List.mem_map.mp hq
      split
      · exact ⟨(h r hr).1, hp.2⟩
      · exact h r hr
    · rw [List.length_map]; omega
  · refine ⟨ms ++ [p], by rw [List.map_append]; rfl, ?_, by rw [List.length_append]; exact Nat.le_refl _⟩
    intro q hq
    rcases List.mem_append.mp hq with z | z
    · exact h q z
    · rw [List.mem_singleton.mp z]; exact hp
theorem merge_known {d : Int} : ∀ (ks ms : List (Str × Kd)), Knd d ms → Knd d ks → ∃ ms', mergeT (ms.map kK) (ks.map kK) = ms'.map kK ∧ Knd d ms' ∧ ms'.length ≤ ms.length + ks.length
  | [], ms, h, _ => ⟨ms, rfl, h, Nat.le_refl _⟩
  | p :: r, ms, h, hk => by
    obtain ⟨m1, e1, h1, l1⟩ := put_known h (hk p List.mem_cons_self)
    obtain ⟨m2, e2, h2, l2⟩ := merge_known r m1 h1 fun q hq => hk q (List.mem_cons_of_mem _ hq)
    refine ⟨m2, ?_, h2, by rw [List.length_cons]; omega⟩
    rw [← e2, ← e1]; rfl
theorem z400 {n : Nat} (h : n ≤ 400) : n ≤ sizeLine := Nat.le_trans h (by decide)
theorem st_known {S : Sto} {kn : Addr} {ks : List (Str × Kd)} {d : Int} {Q : T → Sto → Prop} (hk : S kn = some (.lst (ks.map LAW.pairT))) (hK : Knd d ks) (h4 : ks.length ≤ 400)
    (q : ∀ (ms : List (Str × Kd)) (p : Addr) (S' : Sto), Knd d ms → ms.length ≤ ks.length → S p = none → S' p = some (.fk (ms.map kK)) → Ex S S' → Q (.adr p) S') : oDictF [.adr kn] S Q := by
  unfold oDictF sqT?
  simp only [lstAt_of hk, Option.map_some, Option.bind_some, pairs_known, keys_known]
  obtain ⟨ms, e, h, l⟩ := merge_known ks [] (fun p hp => by cases hp) hK
  refine ⟨by rw [List.length_map]; exact z400 h4, nw fun p S' hp hpp x => ?_⟩
  rw [show mergeT [] (ks.map kK) = mergeT (([] : List (Str × Kd)).map kK) (ks.map kK) from rfl, e] at hpp
  exact q ms p S' h (by simpa using l) hp hpp x
theorem kd_pur : ∀ k : Kd, k.t.pur = true
  | .num => by simp only [Kd.t, pur_tup, purs_cons, purs_nil, pur_str]; rfl
  | .tru => by simp only [Kd.t, pur_tup, purs_cons, purs_nil, pur_str]; rfl
  | .opn x => by simp only [Kd.t, pur_tup, purs_cons, purs_nil, pur_str]; rfl
  | .lst k => by simp only [Kd.t, pur_tup, purs_cons, purs_nil, pur_str, kd_pur k]; rfl
  | .pair a b => by simp only [Kd.t, pur_tup, purs_cons, purs_nil, pur_str, kd_pur a, kd_pur b]; rfl
  | .eith a b => by simp only [Kd.t, pur_tup, purs_cons, purs_nil, pur_str, kd_pur a, kd_pur b]; rfl
  | .fn a b => by simp only [Kd.t, pur_tup, purs_cons, purs_nil, pur_str, kd_pur a, kd_pur b]; rfl
theorem kds_pur (ks : List Kd) : T.purs (ks.map Kd.t) = true := by
  induction ks with
  | nil => exact purs_nil
  | cons k r ih => rw [List.map_cons, purs_cons, kd_pur, ih]; rfl
theorem Kg.hle {d : Int} {k : Kd} (h : Kg d k) : k.h ≤ 24 := by have := h.h; have := up_le d; omega
theorem Kg.mle {d : Int} {k : Kd} (h : Kg d k) : k.m ≤ 5118 := by
  have := h.m
  have h3 : 2 ^ up d ≤ 2 ^ 6 := Nat.pow_le_pow_right (by decide) (up_le d)
  omega
theorem Kg.dp {d : Int} {k : Kd} (h : Kg d k) : k.t.depth ≤ 25 := by rw [kd_dp]; have := h.hle; omega
/-- == of two kinds -/
theorem st_eqk {neg : Bool} {d : Int} {k l : Kd} {S : Sto} {Q : T → Sto → Prop} (h : Kg d k) (q : Q (.bl (eqG neg (eqT k.t l.t))) S) : oEqG neg k.t l.t S Q := st_eq (kd_pur _) (kd_pur _) (by have := h.dp; omega) q
theorem st_eqk' {neg : Bool} {d : Int} {k l : Kd} {S : Sto} {Q : T → Sto → Prop} (h : Kg d l) (q : Q (.bl (eqG neg (eqT k.t l.t))) S) : oEqG neg k.t l.t S Q := st_eq (kd_pur _) (kd_pur _) (by have := h.dp; omega) q
theorem args_ar : ∀ k : Kd, k.args.length = k.ar
  | .num => rfl | .tru => rfl | .opn _ => rfl | .lst _ => rfl | .pair _ _ => rfl | .eith _ _ => rfl
  | .fn a b => congrArg (· + 1) (args_ar b)
theorem ok_ar : ∀ k : Kd, k.ok → k.ar ≤ 3
  | .num, _ => Nat.zero_le _ | .tru, _ => Nat.zero_le _ | .opn _, _ => Nat.zero_le _ | .lst _, _ => Nat.zero_le _ | .pair _ _, _ => Nat.zero_le _ | .eith _ _, _ => Nat.zero_le _
  | .fn a b, h => by show b.ar + 1 ≤ 3; have := h.2.2; omega
theorem args_in : ∀ (k : Kd), k.ok → ∀ a ∈ k.args, a.ok ∧ a.m ≤ k.m ∧ a.h ≤ k.h
  | .fn a b, h, x, hx => by
    rcases List.mem_cons.mp (show x ∈ a :: b.args from hx) with z | z
    · rw [z]; exact ⟨h.1, by show a.m ≤ a.m + b.m + 2; omega, by show a.h ≤ max a.h b.h + 1; omega⟩
    · obtain ⟨g1, g2, g3⟩ := args_in b h.2.1 x z
      exact ⟨g1, by show x.m ≤ a.m + b.m + 2; omega, by show x.h ≤ max a.h b.h + 1; omega⟩
  | .num, _, x, hx => by cases hx
  | .tru, _, x, hx => by cases hx
  | .opn _, _, x, hx => by cases hx
  | .lst _, _, x, hx => by cases hx
  | .pair _ _, _, x, hx => by cases hx
  | .eith _ _, _, x, hx => by cases hx
theorem Kg.arg {d : Int} {k a : Kd} (h : Kg d k) (ha : a ∈ k.args) : Kg d a := by
  obtain ⟨g1, g2, g3⟩ := args_in k h.ok a ha
  exact ⟨g1, by have := h.m; omega, by have := h.h; omega, ok_ar _ g1⟩
theorem Shp.up {HP : Kd → List (Str × Kd) → Prop} : ∀ (j : Nat) (s : T), Shp HP j s → Shp HP (j + 1) s
  | 0, s, h => .inl h
  | j + 1, s, h => by
    rcases h with h | ⟨w, sg, ps, e, h1, h2, h3⟩
    · exact .inl h
    · refine .inr ⟨w, sg, ps, e, h1, ?_, h3⟩
      exact h2.rep fun x hx => Shp.up j x (h2.inn x hx)
theorem Shp.mono {HP : Kd → List (Str × Kd) → Prop} {i j : Nat} {s : T} (h : Shp HP i s) (hm : i ≤ j) : Shp HP j s := by
  induction hm with
  | refl => exact h
  | step _ ih => exact Shp.up _ _ ih
theorem Shp.imp {HP HP' : Kd → List (Str × Kd) → Prop} (g : ∀ k ns, HP k ns → HP' k ns) : ∀ (j : Nat) (s : T), Shp HP j s → Shp HP' j s
  | 0, s, ⟨k, ns, e, h⟩ => ⟨k, ns, e, g _ _ h⟩
  | j + 1, s, h => by
    rcases h with ⟨k, ns, e, h⟩ | ⟨w, sg, ps, e, h1, h2, h3⟩
    · exact .inl ⟨k, ns, e, g _ _ h⟩
    · exact .inr ⟨w, sg, ps, e, h1, h2.rep fun x hx => Shp.imp g j x (h2.inn x hx), h3⟩
theorem shp_hole {HP : Kd → List (Str × Kd) → Prop} {k : Kd} {ns : List (Str × Kd)} (h : HP k ns) : ∀ j, Shp HP j (holeT k ns)
  | 0 => ⟨k, ns, rfl, h⟩
  | j + 1 => .inl ⟨k, ns, rfl, h⟩
theorem shp_form {HP : Kd → List (Str × Kd) → Prop} {j : Nat} {w : Str} {sg : List Bool} {ps : List T} (h1 : signs w = some sg) (h2 : Parts (Shp HP j) Pb sg ps) (h3 : w ≠ "rounds") : Shp HP (j + 1) (.tup (.str w :: ps)) :=
  .inr ⟨w, sg, ps, rfl, h1, h2, fun z => (h3 z).elim⟩
theorem sg_call : signs "call" = some [true, true] := by decide +kernel
theorem shp_name {HP : Kd → List (Str × Kd) → Prop} {j : Nat} {x : Str} (h : low9 x) : Shp HP (j + 1) (.tup [.str "name", .str x]) := shp_form sg_name ⟨pb_str h, trivial⟩ (by decide +kernel)
theorem shp_call {HP : Kd → List (Str × Kd) → Prop} {j : Nat} {s t : T} (h : Shp HP j s) (h2 : Shp HP j t) : Shp HP (j + 1) (.tup [.str "call", s, t]) := shp_form sg_call ⟨h, h2, trivial⟩ (by decide +kernel)
theorem vc_calls (ts : List T) (S : Sto) (Q : T → Sto → Prop) (hl : ts.length = 2) (h : spCalls ts S Q) : t_Lcall_shapes (endT Q) (startT N_Lcall_shapes.length ts) S := by
  obtain ⟨kn, ks, kd, d, rfl, hkn, h4, hK, hkd, q⟩ := h
  rw [show startT N_Lcall_shapes.length [T.adr kn, kd.t] = [some (.adr kn), some kd.t, none, none, none, none, none, none, none] from rfl]
  unfold t_Lcall_shapes
  refine seq_cut fun v1 hv1 => ?_
  try simp only [tsNx, tsSeq, tsBrk, tsCt, tsDrop, tsRet, tsRetN, tsIf, tsAsg, tgN, tgsNil, tgsCons, tgTup, tgSub, tsFor, tsWhile, tiSeq, tiRng1, tiRng2, tiZip, tb, tv, tc, tac, tan, ttup, tlst, tq, tand, tor, tnot, tife, tandV, torV, tnotV, tneg, tsl, tno, tpt, tcall, tbi, tml, tml0, tmj, tisi, tlRev, tlRng1, tdisp, tps, tlc_eq, tiEnumS, tixK, tiItems, tiVals, ttYes, bt1, btN, setsT, wipeT, endT, List.getElem?_cons_zero, List.getElem?_cons_succ, List.set_cons_zero, List.set_cons_succ]
  refine st_nil (nw fun F S1 hF hFF x1 => ?_)
  rw [hv1]
  refine seq_cut fun v2 hv2 => for_cut fun b1 hb1 => ?_
  try simp only [tsNx, tsSeq, tsBrk, tsCt, tsDrop, tsRet, tsRetN, tsIf, tsAsg, tgN, tgsNil, tgsCons, tgTup, tgSub, tsFor, tsWhile, tiSeq, tiRng1, tiRng2, tiZip, tb, tv, tc, tac, tan, ttup, tlst, tq, tand, tor, tnot, tife, tandV, torV, tnotV, tneg, tsl, tno, tpt, tcall, tbi, tml, tml0, tmj, tisi, tlRev, tlRng1, tdisp, tps, tlc_eq, tiEnumS, tixK, tiItems, tiVals, ttYes, bt1, btN, setsT, wipeT, endT, List.getElem?_cons_zero, List.getElem?_cons_succ, List.set_cons_zero, List.set_cons_succ]
  refine st_known (x1 _ _ hkn) hK h4 fun ms M S2 hms hml hM hMM x2 => ?_
  simp only [hMM]
  have x12 := x1.trans x2
  refine ⟨fun i ρ S' => i ≤ ms.length ∧ (∃ k3 k4 k5 k6 k7 k8, ρ = [some (.adr kn), some kd.t, some (.adr F), k3, k4, k5, k6, k7, k8]) ∧ Kp (fun a => a = F) S2 S' ∧ ∃ ss : List T, S' F = some (.lst ss) ∧ ss.length ≤ i ∧ ∀ s ∈ ss, Shp (fun k ns => Kg d k ∧ ns = []) 4 s, ⟨Nat.zero_le _, ⟨_, _, _, _, _, _, rfl⟩, .refl, [], x2 _ _ hFF, Nat.le_refl _, fun s hs => by cases hs⟩, ?_⟩
  rintro i ρ S' ⟨hi, ⟨k3, k4, k5, k6, k7, k8, rfl⟩, kp, ss, hss, hsl, hsp⟩
  have hMF : M ≠ F := fun z => by rw [z, hFF] at hM; cases hM
  refine ⟨kp _ _ hMF hMM, ?_⟩
  have xS : Ex S S' := fun a o h => kp a o (nn hF h) (x12 a o h)
  rw [List.getElem?_map, List.getElem?_map]
  cases hx : ms[i]? with
  | none =>
    have := List.getElem?_eq_none_iff.mp hx
    simp only [Option.map_none]
    rw [hv2]
    try simp only [tsNx, tsSeq, tsBrk, tsCt, tsDrop, tsRet, tsRetN, tsIf, tsAsg, tgN, tgsNil, tgsCons, tgTup, tgSub, tsFor, tsWhile, tiSeq, tiRng1, tiRng2, tiZip, tb, tv, tc, tac, tan, ttup, tlst, tq, tand, tor, tnot, tife, tandV, torV, tnotV, tneg, tsl, tno, tpt, tcall, tbi, tml, tml0, tmj, tisi, tlRev, tlRng1, tdisp, tps, tlc_eq, tiEnumS, tixK, tiItems, tiVals, ttYes, bt1, btN, setsT, wipeT, endT, List.getElem?_cons_zero, List.getElem?_cons_succ, List.set_cons_zero, List.set_cons_succ]
    exact q F ss S' hsp (by omega) xS hF hss
  | some p =>
    have hlt := (List.getElem?_eq_some_iff.mp hx).1
    obtain ⟨p1, p2⟩ := hms p (List.mem_of_getElem? hx)
    simp only [Option.map_some]
    try simp only [kK, kT, tsNx, tsSeq, tsBrk, tsCt, tsDrop, tsRet, tsRetN, tsIf, tsAsg, tgN, tgsNil, tgsCons, tgTup, tgSub, tsFor, tsWhile, tiSeq, tiRng1, tiRng2, tiZip, tb, tv, tc, tac, tan, ttup, tlst, tq, tand, tor, tnot, tife, tandV, torV, tnotV, tneg, tsl, tno, tpt, tcall, tbi, tml, tml0, tmj, tisi, tlRev, tlRng1, tdisp, tps, tlc_eq, tiEnumS, tixK, tiItems, tiVals, ttYes, bt1, btN, setsT, wipeT, endT, List.getElem?_cons_zero, List.getElem?_cons_succ, List.set_cons_zero, List.set_cons_succ]
    refine ⟨rfl, ?_⟩
    rw [hb1]
    refine seq_cut fun v3 hv3 => ?_
    try simp only [tsNx, tsSeq, tsBrk, tsCt, tsDrop, tsRet, tsRetN, tsIf, tsAsg, tgN, tgsNil, tgsCons, tgTup, tgSub, tsFor, tsWhile, tiSeq, tiRng1, tiRng2, tiZip, tb, tv, tc, tac, tan, ttup, tlst, tq, tand, tor, tnot, tife, tandV, torV, tnotV, tneg, tsl, tno, tpt, tcall, tbi, tml, tml0, tmj, tisi, tlRev, tlRng1, tdisp, tps, tlc_eq, tiEnumS, tixK, tiItems, tiVals, ttYes, bt1, btN, setsT, wipeT, endT, List.getElem?_cons_zero, List.getElem?_cons_succ, List.set_cons_zero, List.set_cons_succ]
    refine ⟨rfl, p.2, rfl, by have := p2.mle; omega, fun A S3 x3 hA hAA => ?_⟩
    refine ⟨rfl, ?_⟩
    rw [hv3]
    try simp only [tsNx, tsSeq, tsBrk, tsCt, tsDrop, tsRet, tsRetN, tsIf, tsAsg, tgN, tgsNil, tgsCons, tgTup, tgSub, tsFor, tsWhile, tiSeq, tiRng1, tiRng2, tiZip, tb, tv, tc, tac, tan, ttup, tlst, tq, tand, tor, tnot, tife, tandV, torV, tnotV, tneg, tsl, tno, tpt, tcall, tbi, tml, tml0, tmj, tisi, tlRev, tlRng1, tdisp, tps, tlc_eq, tiEnumS, tixK, tiItems, tiVals, ttYes, bt1, btN, setsT, wipeT, endT, List.getElem?_cons_zero, List.getElem?_cons_succ, List.set_cons_zero, List.set_cons_succ]
    have kp3 : Kp (fun a => a = F) S2 S3 := kp.trans x3.kp
    have hss3 := x3 _ _ hss
    refine st_nil (nw fun B S4 hB hBB x4 => ?_)
    have hss4 := x4 _ _ hss3
    have kp4 := kp3.trans x4.kp
    refine st_eql (x4 _ _ hAA) hBB (kds_pur _) purs_nil (by rw [depths_nil]; omega) ?_
    have skip : ∀ S5 k7 k8, Kp (fun a => a = F) S2 S5 → S5 F = some (.lst ss) → i + 1 ≤ ms.length ∧ (∃ k3' k4' k5' k6' k7' k8', [some (T.adr kn), some kd.t, some (.adr F), some (.str p.1), some p.2.t, some (.adr A), some p.2.res.t, k7, k8] = [some (.adr kn), some kd.t, some (.adr F), k3', k4', k5', k6', k7', k8']) ∧ Kp (fun a => a = F) S2 S5 ∧ ∃ ss : List T, S5 F = some (.lst ss) ∧ ss.length ≤ i + 1 ∧ ∀ s ∈ ss, Shp (fun k ns => Kg d k ∧ ns = []) 4 s := fun S5 k7 k8 k5 h5 => ⟨hlt, ⟨_, _, _, _, _, _, rfl⟩, k5, ss, h5, by omega, hsp⟩
    cases ha : p.2.args with
    | nil =>
      rw [List.map_nil, eqTs_nil]
      exact skip S4 k7 k8 kp4 hss4
    | cons a0 ar =>
      rw [List.map_cons, eqTs_cn]
      simp only [eqG_t, Bool.not_false, kq]
      refine st_eqk' hkd ?_
      cases hq : eqT p.2.res.t kd.t with
      | false => simp only [eqG, kq]; exact skip S4 k7 k8 kp4 hss4
      | true =>
        simp only [eqG, kq]
        refine ⟨z4000 (by simp), ?_⟩
        have hAA4 := x4 _ _ hAA
        simp only [lstAt_of hAA4]
        refine ⟨fun j ρ S5 => j ≤ p.2.args.length ∧ Ex S4 S5 ∧ ∃ t k8, ρ = [some (.adr kn), some kd.t, some (.adr F), some (.str p.1), some p.2.t, some (.adr A), some p.2.res.t, some t, k8] ∧ Shp (fun k ns => Kg d k ∧ ns = []) (j + 1) t, ⟨Nat.zero_le _, .refl _, _, _, rfl, shp_name p1⟩, ?_⟩
        rintro j ρ S5 ⟨hj, x5, t, k8', rfl, ht⟩
        refine ⟨lstAt_of (x5 _ _ hAA4), ?_⟩
        have ar3 : p.2.args.length ≤ 3 := by rw [args_ar]; exact ok_ar _ p2.ok
        rw [List.getElem?_map]
        cases hy : p.2.args[j]? with
        | some y =>
          simp only [Option.map_some]
          try simp only [tsNx, tsSeq, tsBrk, tsCt, tsDrop, tsRet, tsRetN, tsIf, tsAsg, tgN, tgsNil, tgsCons, tgTup, tgSub, tsFor, tsWhile, tiSeq, tiRng1, tiRng2, tiZip, tb, tv, tc, tac, tan, ttup, tlst, tq, tand, tor, tnot, tife, tandV, torV, tnotV, tneg, tsl, tno, tpt, tcall, tbi, tml, tml0, tmj, tisi, tlRev, tlRng1, tdisp, tps, tlc_eq, tiEnumS, tixK, tiItems, tiVals, ttYes, bt1, btN, setsT, wipeT, endT, List.getElem?_cons_zero, List.getElem?_cons_succ, List.set_cons_zero, List.set_cons_succ]
          refine ⟨z4000 (by simp), z4000 (by simp), z4000 (by simp), ?_⟩
          exact ⟨(List.getElem?_eq_some_iff.mp hy).1, x5, _, _, rfl, shp_call ht (shp_hole (ns := []) ⟨p2.arg (List.mem_of_getElem? hy), rfl⟩ _)⟩
        | none =>
          have := List.getElem?_eq_none_iff.mp hy
          simp only [Option.map_none]
          have hss5 := x5 _ _ hss4
          try simp only [tsNx, tsSeq, tsBrk, tsCt, tsDrop, tsRet, tsRetN, tsIf, tsAsg, tgN, tgsNil, tgsCons, tgTup, tgSub, tsFor, tsWhile, tiSeq, tiRng1, tiRng2, tiZip, tb, tv, tc, tac, tan, ttup, tlst, tq, tand, tor, tnot, tife, tandV, torV, tnotV, tneg, tsl, tno, tpt, tcall, tbi, tml, tml0, tmj, tisi, tlRev, tlRng1, tdisp, tps, tlc_eq, tiEnumS, tixK, tiItems, tiVals, ttYes, bt1, btN, setsT, wipeT, endT, List.getElem?_cons_zero, List.getElem?_cons_succ, List.set_cons_zero, List.set_cons_succ]
          refine ⟨st_isl hss5, st_app hss5 (Nat.lt_of_lt_of_le (show _ < 401 by omega) (by decide)) fun S6 u6 => ?_⟩
          refine ⟨hlt, ⟨_, _, _, _, _, _, rfl⟩, fun a o na h => u6.get na ((kp4.trans x5.kp) a o na h), _, u6.at_, by rw [List.length_append]; simp; omega, fun s hs => ?_⟩
          rcases List.mem_append.mp hs with z | z
          · exact hsp s z
          · rw [List.mem_singleton.mp z]; exact ht.mono (by omega)
end LAW
set_option Elab.async false
set_option linter.all false
set_option maxRecDepth 100000
set_option maxHeartbeats 1000000
/-! D19: the generator's world stands; a kind's own shapes. -/
namespace LAW
open PySem PySem.Spec PyProof.Rows L2 TL
theorem Tools.fr {S S' : Sto} {D C tl : Addr} {own : Str} (t : Tools S D C tl own) (f : Fr D C S S') : Tools S' D C tl own := by
  obtain ⟨no, n1, n2, kvs, an, al, aw, a, b, c, lo, ws, fl, h1, h2, ⟨a1, a2, a3, a4, a5⟩, ⟨b1, b2, b3, b4⟩, ⟨c1, c2, c3, c4, c5⟩, h3⟩ := t
  exact ⟨no, n1, n2, kvs, an, al, aw, a, b, c, lo, ws, fl, f.kp _ _ n1 n2 h1, h2, ⟨a1, a2, a3, f.kp _ _ a1 a2 a4, a5⟩, ⟨b1, b2, b3, f.kp _ _ b1 b2 b4⟩, ⟨c1, c2, c3, f.kp _ _ c1 c2 c4, c5⟩, h3⟩
theorem Gen.fr {S S' : Sto} {D C tl kn : Addr} {own : Str} {ks : List (Str × Kd)} {kd : Kd} {d : Int} (g : Gen S D C tl kn own ks kd d) (f : Fr D C S S') : Gen S' D C tl kn own ks kd d :=
  ⟨f.dk, g.tl.fr f, g.n1, g.n2, f.kp _ _ g.n1 g.n2 g.kn, g.kks, g.kg, g.few, g.d6⟩
section
variable {S : Sto} {D C tl : Addr} {own : Str} {Q : T → Sto → Prop}
theorem st_names (t : Tools S D C tl own) (q : ∀ (an : Addr) (a b c : Str), an ≠ D → an ≠ C → S an = some (.lst [.str a, .str b, .str c]) → lower a → lower b → lower c → Q (.adr an) S) : oIx (.adr tl) (.str "names") S Q := by
  obtain ⟨no, n1, n2, kvs, an, al, aw, a, b, c, lo, ws, fl, h1, h2, ⟨a1, a2, a3, a4, a5, a6, a7⟩, _⟩ := t
  exact st_ixd h1 rfl a3 (q an a b c a1 a2 a4 a5 a6 a7)
theorem st_looked (t : Tools S D C tl own) (q : ∀ (al : Addr) (lo : List Str), al ≠ D → al ≠ C → S al = some (.lst (lo.map T.str)) → Q (.adr al) S) : oIx (.adr tl) (.str "looked") S Q := by
  obtain ⟨no, n1, n2, kvs, an, al, aw, a, b, c, lo, ws, fl, h1, h2, _, ⟨b1, b2, b3, b4⟩, _⟩ := t
  exact st_ixd h1 rfl b3 (q al lo b1 b2 b4)
theorem st_words (t : Tools S D C tl own) (q : ∀ (aw : Addr) (ws : List Str), aw ≠ D → aw ≠ C → S aw = some (.lst (ws.map T.str)) → 1 ≤ ws.length → ws.length ≤ 20 → (∀ x ∈ ws, x ∈ (["if", "part", "case", "fold", "rounds", "call", "built"] : List Str)) → Q (.adr aw) S) : oIx (.adr tl) (.str "words") S Q := by
  obtain ⟨no, n1, n2, kvs, an, al, aw, a, b, c, lo, ws, fl, h1, h2, _, _, ⟨c1, c2, c3, c4, c5, c6, c7⟩, _⟩ := t
  exact st_ixd h1 rfl c3 (q aw ws c1 c2 c4 c5 c6 c7)
theorem st_own (t : Tools S D C tl own) (q : Q (.str own) S) : oIx (.adr tl) (.str "own") S Q := by
  obtain ⟨no, n1, n2, kvs, an, al, aw, a, b, c, lo, ws, fl, h1, h2, _, _, _, h3, _⟩ := t
  exact st_ixd h1 rfl h3 q
theorem st_faults (t : Tools S D C tl own) (q : ∀ f : Int, Q (.int f) S) : oIx (.adr tl) (.str "faults") S Q := by
  obtain ⟨no, n1, n2, kvs, an, al, aw, a, b, c, lo, ws, fl, h1, h2, _, _, _, _, h3⟩ := t
  exact st_ixd h1 rfl h3 (q fl)
end
mutual
theorem bud_nr : ∀ x : T, Nr x → bud x = sz x
  | .non, _ => by unfold bud sz; rfl
  | .bl _, _ => by unfold bud sz; rfl
  | .int _, _ => by unfold bud sz; rfl
  | .str _, _ => by unfold bud sz; rfl
  | .fl _, _ => by unfold bud sz; rfl
  | .adr _, _ => by unfold bud sz; rfl
  | .tup xs, h => by
    rw [nr_tup] at h
    rw [bud_tup, sz_tup, buds_nr xs h.2]
    unfold budH
    split
    · rename_i w k r n
      rw [if_neg h.1.2]
    · rfl
theorem buds_nr : ∀ xs : List T, Nrs xs → buds xs = szs xs
  | [], _ => by rw [buds_nil, szs_nil]
  | x :: xs, h => by
    rw [nrs_cons] at h
    rw [buds_cons, szs_cons, bud_nr x h.1, buds_nr xs h.2]
end
theorem bud_str {x : Str} : bud (.str x) = 1 := by unfold bud; rfl
theorem bud_int {x : Int} : bud (.int x) = 1 := by unfold bud; rfl
theorem bud_bl {x : Bool} : bud (.bl x) = 1 := by unfold bud; rfl
theorem bud_kd {k : Kd} (h : k.ok) : bud k.t = k.m := by rw [bud_nr _ (kd_ln k h).2, kd_sz]
theorem bud_hole (k : Kd) (ns : List (Str × Kd)) : bud (holeT k ns) = 5 * k.m := by
  unfold holeT
  rw [bud_tup]
  show (if (Str.ofString "hole") = Str.ofString "hole" then 5 * sz k.t else buds [T.str "hole", k.t, T.tup (ns.map LAW.pairT)] + 1) = _
  rw [if_pos rfl, kd_sz]
theorem bud_form {w : Str} {ps : List T} (h : w ≠ "hole") : bud (.tup (.str w :: ps)) = buds ps + 2 := by
  rw [bud_tup, buds_cons, bud_str]
  cases ps with
  | nil => show 1 + buds [] + 1 = _; omega
  | cons k r =>
    show (if w = Str.ofString "hole" then 5 * sz k else 1 + buds (k :: r) + 1) = _
    rw [if_neg h]; omega
theorem s_num_fun : ((Str.ofString "num") == (Str.ofString "fun")) = false := by decide +kernel
theorem s_truth_fun : ((Str.ofString "truth") == (Str.ofString "fun")) = false := by decide +kernel
theorem s_open_fun : ((Str.ofString "open") == (Str.ofString "fun")) = false := by decide +kernel
theorem s_list_fun : ((Str.ofString "list") == (Str.ofString "fun")) = false := by decide +kernel
theorem s_pair_fun : ((Str.ofString "pair") == (Str.ofString "fun")) = false := by decide +kernel
theorem s_either_fun : ((Str.ofString "either") == (Str.ofString "fun")) = false := by decide +kernel
theorem s_fun_fun : ((Str.ofString "fun") == (Str.ofString "fun")) = true := by decide +kernel
theorem s_fun_num : ((Str.ofString "fun") == (Str.ofString "num")) = false := by decide +kernel
theorem s_fun_truth : ((Str.ofString "fun") == (Str.ofString "truth")) = false := by decide +kernel
theorem s_fun_open : ((Str.ofString "fun") == (Str.ofString "open")) = false := by decide +kernel
theorem s_fun_list : ((Str.ofString "fun") == (Str.ofString "list")) = false := by decide +kernel
theorem s_fun_pair : ((Str.ofString "fun") == (Str.ofString "pair")) = false := by decide +kernel
theorem s_fun_either : ((Str.ofString "fun") == (Str.ofString "either")) = false := by decide +kernel
theorem sg_fun : signs "fun" = some [false, false, true] := by decide +kernel
theorem sg_num : signs "num" = some [false] := by decide +kernel
theorem sg_plus : signs "plus" = some [true, true] := by decide +kernel
theorem sg_less : signs "less" = some [true, true] := by decide +kernel
theorem sg_alike : signs "alike" = some [true, true] := by decide +kernel
theorem sg_pair : signs "pair" = some [true, true] := by decide +kernel
theorem sg_more : signs "more" = some [true, true] := by decide +kernel
theorem sg_left : signs "left" = some [true, false] := by decide +kernel
theorem sg_none : signs "none" = some [false] := by decide +kernel
theorem sg_fault : signs "fault" = some [false] := by decide +kernel
theorem Kg.num {d : Int} : Kg d .num := ⟨trivial, by show 2 + 2 ≤ _; have := Nat.one_le_two_pow (n := up d); omega, Nat.zero_le _, Nat.zero_le _⟩
theorem Kg.tru {d : Int} : Kg d .tru := ⟨trivial, by show 2 + 2 ≤ _; have := Nat.one_le_two_pow (n := up d); omega, Nat.zero_le _, Nat.zero_le _⟩
theorem Kg.sub {d : Int} {k l : Kd} (h : Kg d k) (ho : l.ok) (hm : l.m ≤ k.m) (hh : l.h < k.h) : Less d l k := ⟨⟨ho, by have := h.m; omega, by have := h.h; omega, ok_ar _ ho⟩, hh⟩
/-- what own_shapes answers -/
def Own (d : Int) (kd : Kd) (s0 : T) (ss : List T) : Prop := Shp (fun k ns => Less d k kd ∧ Knd d ns ∧ ns.length ≤ 1) 1 s0 ∧ bud s0 ≤ 5 * kd.m ∧ (∀ s ∈ ss, Shp (fun k ns => Kg d k ∧ Knd d ns ∧ ns.length ≤ 1) 1 s)
theorem knd_nil {d : Int} : Knd d [] := fun p h => by cases h
theorem lh {d : Int} {k kd : Kd} (h : Less d k kd) : Shp (fun k ns => Less d k kd ∧ Knd d ns ∧ ns.length ≤ 1) 0 (holeT k []) := shp_hole ⟨h, knd_nil, Nat.zero_le _⟩ 0
theorem gh {d : Int} {k : Kd} (h : Kg d k) : Shp (fun k ns => Kg d k ∧ Knd d ns ∧ ns.length ≤ 1) 0 (holeT k []) := shp_hole ⟨h, knd_nil, Nat.zero_le _⟩ 0
theorem own_fun {d : Int} {a b : Kd} {x : Str} (h : Kg d (.fn a b)) (hx : low9 x) : Own d (.fn a b) (.tup [.str "fun", .str x, a.t, holeT b [(x, a)]]) [] := by
  have la : Less d a (.fn a b) := h.sub h.ok.1 (by show a.m ≤ a.m + b.m + 2; omega) (by show a.h < max a.h b.h + 1; omega)
  have lb : Less d b (.fn a b) := h.sub h.ok.2.1 (by show b.m ≤ a.m + b.m + 2; omega) (by show b.h < max a.h b.h + 1; omega)
  refine ⟨shp_form sg_fun ⟨pb_str hx, la.kg.pb, shp_hole ⟨lb, fun p hp => ?_, Nat.le_refl _⟩ 0, trivial⟩ (by decide +kernel), ?_, fun s hs => by cases hs⟩
  rotate_left
  · rw [List.mem_singleton.mp hp]; exact ⟨hx, la.kg⟩
  · rw [bud_form (by decide +kernel)]
    simp only [buds_cons, buds_nil, bud_str, bud_kd h.ok.1, bud_hole]
    show _ ≤ 5 * (a.m + b.m + 2); omega
theorem own_num {d v : Int} (h0 : 0 ≤ v) (h1 : v ≤ 1000000) : Own d .num (.tup [.str "num", .int v]) [.tup [.str "plus", holeT .num [], holeT .num []]] := by
  refine ⟨shp_form sg_num ⟨pb_int h0 h1, trivial⟩ (by decide +kernel), ?_, fun s hs => ?_⟩
  · rw [bud_form (by decide +kernel)]
    simp only [buds_cons, buds_nil, bud_int]; decide
  · rw [List.mem_singleton.mp hs]
    exact shp_form sg_plus ⟨gh .num, gh .num, trivial⟩ (by decide +kernel)
theorem own_pair {d : Int} {a b : Kd} (h : Kg d (.pair a b)) : Own d (.pair a b) (.tup [.str "pair", holeT a [], holeT b []]) [] := by
  have la : Less d a (.pair a b) := h.sub h.ok.1 (by show a.m ≤ a.m + b.m + 2; omega) (by show a.h < max a.h b.h + 1; omega)
  have lb : Less d b (.pair a b) := h.sub h.ok.2 (by show b.m ≤ a.m + b.m + 2; omega) (by show b.h < max a.h b.h + 1; omega)
  refine ⟨shp_form sg_pair ⟨lh la, lh lb, trivial⟩ (by decide +kernel), ?_, fun s hs => by cases hs⟩
  rw [bud_form (by decide +kernel)]
  simp only [buds_cons, buds_nil, bud_hole]
  show _ ≤ 5 * (a.m + b.m + 2); omega
theorem own_eith {d : Int} {a b : Kd} (h : Kg d (.eith a b)) : Own d (.eith a b) (.tup [.str "left", holeT a [], b.t]) [.tup [.str "right", a.t, holeT b []]] := by
  have la : Less d a (.eith a b) := h.sub h.ok.1 (by show a.m ≤ a.m + b.m + 2; omega) (by show a.h < max a.h b.h + 1; omega)
  have lb : Less d b (.eith a b) := h.sub h.ok.2 (by show b.m ≤ a.m + b.m + 2; omega) (by show b.h < max a.h b.h + 1; omega)
  refine ⟨shp_form sg_left ⟨lh la, lb.kg.pb, trivial⟩ (by decide +kernel), ?_, fun s hs => ?_⟩
  · rw [bud_form (by decide +kernel)]
    simp only [buds_cons, buds_nil, bud_hole, bud_kd h.ok.2]
    show _ ≤ 5 * (a.m + b.m + 2); omega
  · rw [List.mem_singleton.mp hs]
    exact shp_form sg_right ⟨la.kg.pb, gh lb.kg, trivial⟩ (by decide +kernel)
theorem own_lst {d : Int} {k : Kd} (h : Kg d (.lst k)) : Own d (.lst k) (.tup [.str "none", k.t]) [.tup [.str "more", holeT k [], holeT (.lst k) []]] := by
  have lk : Less d k (.lst k) := h.sub h.ok (by show k.m ≤ k.m + 2; omega) (by show k.h < k.h + 1; omega)
  refine ⟨shp_form sg_none ⟨lk.kg.pb, trivial⟩ (by decide +kernel), ?_, fun s hs => ?_⟩
  · rw [bud_form (by decide +kernel)]
    simp only [buds_cons, buds_nil, bud_kd (show k.ok from h.ok)]
    show _ ≤ 5 * (k.m + 2); omega
  · rw [List.mem_singleton.mp hs]
    exact shp_form sg_more ⟨gh lk.kg, gh h, trivial⟩ (by decide +kernel)
theorem own_opn {d : Int} {x : Str} (h : Kg d (.opn x)) : Own d (.opn x) (.tup [.str "fault", (Kd.opn x).t]) [] := by
  refine ⟨shp_form sg_fault ⟨h.pb, trivial⟩ (by decide +kernel), ?_, fun s hs => by cases hs⟩
  rw [bud_form (by decide +kernel)]
  simp only [buds_cons, buds_nil, bud_kd h.ok]
  show 3 + 0 + 2 ≤ 5 * 3; omega
theorem own_tru {d : Int} {b : Bool} {ss : List T} (h : ∀ s ∈ ss, Shp (fun k ns => Kg d k ∧ Knd d ns ∧ ns.length ≤ 1) 1 s) : Own d .tru (.tup [.str "truth", .bl b]) ss := by
  refine ⟨shp_form sg_truth ⟨pb_bl, trivial⟩ (by decide +kernel), ?_, h⟩
  rw [bud_form (by decide +kernel)]
  simp only [buds_cons, buds_nil, bud_bl]; decide
theorem shp_less {d : Int} : Shp (fun k ns => Kg d k ∧ Knd d ns ∧ ns.length ≤ 1) 1 (.tup [.str "less", holeT .num [], holeT .num []]) := shp_form sg_less ⟨gh .num, gh .num, trivial⟩ (by decide +kernel)
theorem shp_alike {d : Int} {k : Kd} (h : Kg d k) : Shp (fun k ns => Kg d k ∧ Knd d ns ∧ ns.length ≤ 1) 1 (.tup [.str "alike", holeT k [], holeT k []]) := shp_form sg_alike ⟨gh h, gh h, trivial⟩ (by decide +kernel)
end LAW
set_option Elab.async false
set_option linter.all false
set_option maxRecDepth 100000
set_option maxHeartbeats 1000000
/-! D20: a kind's own shapes. -/
namespace LAW
open PySem PySem.Spec PyProof.Rows L2 TL
theorem st_inL {neg : Bool} {S : Sto} {al : Addr} {x : Str} {lo : List Str} {Q : T → Sto → Prop} (h : S al = some (.lst (lo.map T.str))) (q : Q (.bl (eqG neg (decide (x ∈ lo)))) S) : oInG neg (.str x) (.adr al) S Q := by
  unfold oInG
  simp only [lstAt_of h, any_strs]
  exact ⟨pur_str, purs_strs _, by rw [depth_str]; omega, q⟩
theorem vc_own (ts : List T) (S : Sto) (Q : T → Sto → Prop) (hl : ts.length = 4) (h : spOwn ts S Q) : t_Lown_shapes (endT Q) (startT N_Lown_shapes.length ts) S := by
  obtain ⟨D, C, tl, kn, own, ks, kd, d, rfl, g, q⟩ := h
  rw [show startT N_Lown_shapes.length [T.adr D, .adr tl, .adr kn, kd.t] = [some (.adr D), some (.adr tl), some (.adr kn), some kd.t, none, none, none, none, none, none] from rfl]
  -- a list is told
  have fin : ∀ {S' : Sto} {s0 : T} {ss : List T}, Fr D C S S' → Own d kd s0 ss → (s0 :: ss).length ≤ 500 → NewO S' (.lst (s0 :: ss)) Q := fun {S' s0 ss} f o l => nw fun p S2 hp hpp x => q p s0 ss S2 o.1 o.2.1 o.2.2 (by rw [List.length_cons] at l; omega) (f.ex x) (f.none g.dk hp) hpp
  unfold t_Lown_shapes
  refine seq_cut fun v1 hv1 => ?_
  try simp only [tsNx, tsSeq, tsBrk, tsCt, tsDrop, tsRet, tsRetN, tsIf, tsAsg, tgN, tgsNil, tgsCons, tgTup, tgSub, tsFor, tsWhile, tiSeq, tiRng1, tiRng2, tiZip, tb, tv, tc, tac, tan, ttup, tlst, tq, tand, tor, tnot, tife, tandV, torV, tnotV, tneg, tsl, tno, tpt, tcall, tbi, tml, tml0, tmj, tisi, tlRev, tlRng1, tdisp, tps, tlc_eq, tiEnumS, tixK, tiItems, tiVals, ttYes, bt1, btN, setsT, wipeT, endT, List.getElem?_cons_zero, List.getElem?_cons_succ, List.set_cons_zero, List.set_cons_succ]
  refine st_names g.tl fun an a b c a1 a2 ha la lb lc => ⟨rfl, D, C, an, _, rfl, g.dk, a1, a2, ha, by simp, by simp, fun v S1 hv f1 => ?_⟩
  obtain ⟨x, rfl, hx⟩ : ∃ x, v = T.str x ∧ lower x := by
    simp only [List.mem_cons, List.not_mem_nil, or_false] at hv
    rcases hv with rfl | rfl | rfl
    · exact ⟨_, rfl, la⟩
    · exact ⟨_, rfl, lb⟩
    · exact ⟨_, rfl, lc⟩
  have g1 := g.fr f1
  clear ha hv
  rw [hv1]
  refine seq_cut fun v2 hv2 => ?_
  cases kd with
  | fn a b =>
    try simp only [Kd.t, tsNx, tsSeq, tsBrk, tsCt, tsDrop, tsRet, tsRetN, tsIf, tsAsg, tgN, tgsNil, tgsCons, tgTup, tgSub, tsFor, tsWhile, tiSeq, tiRng1, tiRng2, tiZip, tb, tv, tc, tac, tan, ttup, tlst, tq, tand, tor, tnot, tife, tandV, torV, tnotV, tneg, tsl, tno, tpt, tcall, tbi, tml, tml0, tmj, tisi, tlRev, tlRng1, tdisp, tps, tlc_eq, tiEnumS, tixK, tiItems, tiVals, ttYes, bt1, btN, setsT, wipeT, endT, List.getElem?_cons_zero, List.getElem?_cons_succ, List.set_cons_zero, List.set_cons_succ]
    try simp only [s_fun_fun, ev_t0, ev_t1, ev_t2, ev_eqs, ev_eqi, ev_intb, ev_inti, ev_add, ev_sub, ev_lt, ev_gt, ev_sl1, ev_in2, ev_lent, ev_isn, Bool.or_false, Bool.or_true, Bool.false_or, Bool.true_or, eqG_f, eqG_t, kq, Bool.not_true, Bool.not_false, if_true, if_false, ite_true, ite_false, reduceIte, s_num_num, s_num_truth, s_num_open, s_num_list, s_num_pair, s_num_either, s_num_left, s_num_right, s_num_thing, s_num_fault, s_num_worth, s_num_table, s_truth_num, s_truth_truth, s_truth_open, s_truth_list, s_truth_pair, s_truth_either, s_truth_left, s_truth_right, s_truth_thing, s_truth_fault, s_truth_worth, s_truth_table, s_open_num, s_open_truth, s_open_open, s_open_list, s_open_pair, s_open_either, s_open_left, s_open_right, s_open_thing, s_open_fault, s_open_worth, s_open_table, s_list_num, s_list_truth, s_list_open, s_list_list, s_list_pair, s_list_either, s_list_left, s_list_right, s_list_thing, s_list_fault, s_list_worth, s_list_table, s_pair_num, s_pair_truth, s_pair_open, s_pair_list, s_pair_pair, s_pair_either, s_pair_left, s_pair_right, s_pair_thing, s_pair_fault, s_pair_worth, s_pair_table, s_either_num, s_either_truth, s_either_open, s_either_list, s_either_pair, s_either_either, s_either_left, s_either_right, s_either_thing, s_either_fault, s_either_worth, s_either_table, s_left_num, s_left_truth, s_left_open, s_left_list, s_left_pair, s_left_either, s_left_left, s_left_right, s_left_thing, s_left_fault, s_left_worth, s_left_table, s_right_num, s_right_truth, s_right_open, s_right_list, s_right_pair, s_right_either, s_right_left, s_right_right, s_right_thing, s_right_fault, s_right_worth, s_right_table, s_thing_num, s_thing_truth, s_thing_open, s_thing_list, s_thing_pair, s_thing_either, s_thing_left, s_thing_right, s_thing_thing, s_thing_fault, s_thing_worth, s_thing_table, s_fault_num, s_fault_truth, s_fault_open, s_fault_list, s_fault_pair, s_fault_either, s_fault_left, s_fault_right, s_fault_thing, s_fault_fault, s_fault_worth, s_fault_table, s_worth_num, s_worth_truth, s_worth_open, s_worth_list, s_worth_pair, s_worth_either, s_worth_left, s_worth_right, s_worth_thing, s_worth_fault, s_worth_worth, s_worth_table, s_table_num, s_table_truth, s_table_open, s_table_list, s_table_pair, s_table_either, s_table_left, s_table_right, s_table_thing, s_table_fault, s_table_worth, s_table_table]
    refine ⟨z4000 (by simp), z4000 (by simp), z4000 (by simp), z4000 (by simp), z4000 (by simp), ?_⟩
    exact fin f1 (own_fun g.kg (lower9 hx)) (by simp)
  | num =>
    try simp only [Kd.t, tsNx, tsSeq, tsBrk, tsCt, tsDrop, tsRet, tsRetN, tsIf, tsAsg, tgN, tgsNil, tgsCons, tgTup, tgSub, tsFor, tsWhile, tiSeq, tiRng1, tiRng2, tiZip, tb, tv, tc, tac, tan, ttup, tlst, tq, tand, tor, tnot, tife, tandV, torV, tnotV, tneg, tsl, tno, tpt, tcall, tbi, tml, tml0, tmj, tisi, tlRev, tlRng1, tdisp, tps, tlc_eq, tiEnumS, tixK, tiItems, tiVals, ttYes, bt1, btN, setsT, wipeT, endT, List.getElem?_cons_zero, List.getElem?_cons_succ, List.set_cons_zero, List.set_cons_succ]
    try simp only [s_num_fun, ev_t0, ev_t1, ev_t2, ev_eqs, ev_eqi, ev_intb, ev_inti, ev_add, ev_sub, ev_lt, ev_gt, ev_sl1, ev_in2, ev_lent, ev_isn, Bool.or_false, Bool.or_true, Bool.false_or, Bool.true_or, eqG_f, eqG_t, kq, Bool.not_true, Bool.not_false, if_true, if_false, ite_true, ite_false, reduceIte, s_num_num, s_num_truth, s_num_open, s_num_list, s_num_pair, s_num_either, s_num_left, s_num_right, s_num_thing, s_num_fault, s_num_worth, s_num_table, s_truth_num, s_truth_truth, s_truth_open, s_truth_list, s_truth_pair, s_truth_either, s_truth_left, s_truth_right, s_truth_thing, s_truth_fault, s_truth_worth, s_truth_table, s_open_num, s_open_truth, s_open_open, s_open_list, s_open_pair, s_open_either, s_open_left, s_open_right, s_open_thing, s_open_fault, s_open_worth, s_open_table, s_list_num, s_list_truth, s_list_open, s_list_list, s_list_pair, s_list_either, s_list_left, s_list_right, s_list_thing, s_list_fault, s_list_worth, s_list_table, s_pair_num, s_pair_truth, s_pair_open, s_pair_list, s_pair_pair, s_pair_either, s_pair_left, s_pair_right, s_pair_thing, s_pair_fault, s_pair_worth, s_pair_table, s_either_num, s_either_truth, s_either_open, s_either_list, s_either_pair, s_either_either, s_either_left, s_either_right, s_either_thing, s_either_fault, s_either_worth, s_either_table, s_left_num, s_left_truth, s_left_open, s_left_list, s_left_pair, s_left_either, s_left_left, s_left_right, s_left_thing, s_left_fault, s_left_worth, s_left_table, s_right_num, s_right_truth, s_right_open, s_right_list, s_right_pair, s_right_either, s_right_left, s_right_right, s_right_thing, s_right_fault, s_right_worth, s_right_table, s_thing_num, s_thing_truth, s_thing_open, s_thing_list, s_thing_pair, s_thing_either, s_thing_left, s_thing_right, s_thing_thing, s_thing_fault, s_thing_worth, s_thing_table, s_fault_num, s_fault_truth, s_fault_open, s_fault_list, s_fault_pair, s_fault_either, s_fault_left, s_fault_right, s_fault_thing, s_fault_fault, s_fault_worth, s_fault_table, s_worth_num, s_worth_truth, s_worth_open, s_worth_list, s_worth_pair, s_worth_either, s_worth_left, s_worth_right, s_worth_thing, s_worth_fault, s_worth_worth, s_worth_table, s_table_num, s_table_truth, s_table_open, s_table_list, s_table_pair, s_table_either, s_table_left, s_table_right, s_table_thing, s_table_fault, s_table_worth, s_table_table]
    rw [hv2]
    refine seq_cut fun v3 hv3 => ?_
    try simp only [Kd.t, tsNx, tsSeq, tsBrk, tsCt, tsDrop, tsRet, tsRetN, tsIf, tsAsg, tgN, tgsNil, tgsCons, tgTup, tgSub, tsFor, tsWhile, tiSeq, tiRng1, tiRng2, tiZip, tb, tv, tc, tac, tan, ttup, tlst, tq, tand, tor, tnot, tife, tandV, torV, tnotV, tneg, tsl, tno, tpt, tcall, tbi, tml, tml0, tmj, tisi, tlRev, tlRng1, tdisp, tps, tlc_eq, tiEnumS, tixK, tiItems, tiVals, ttYes, bt1, btN, setsT, wipeT, endT, List.getElem?_cons_zero, List.getElem?_cons_succ, List.set_cons_zero, List.set_cons_succ]
    try simp only [s_num_num, ev_t0, ev_t1, ev_t2, ev_eqs, ev_eqi, ev_intb, ev_inti, ev_add, ev_sub, ev_lt, ev_gt, ev_sl1, ev_in2, ev_lent, ev_isn, Bool.or_false, Bool.or_true, Bool.false_or, Bool.true_or, eqG_f, eqG_t, kq, Bool.not_true, Bool.not_false, if_true, if_false, ite_true, ite_false, reduceIte, s_num_num, s_num_truth, s_num_open, s_num_list, s_num_pair, s_num_either, s_num_left, s_num_right, s_num_thing, s_num_fault, s_num_worth, s_num_table, s_truth_num, s_truth_truth, s_truth_open, s_truth_list, s_truth_pair, s_truth_either, s_truth_left, s_truth_right, s_truth_thing, s_truth_fault, s_truth_worth, s_truth_table, s_open_num, s_open_truth, s_open_open, s_open_list, s_open_pair, s_open_either, s_open_left, s_open_right, s_open_thing, s_open_fault, s_open_worth, s_open_table, s_list_num, s_list_truth, s_list_open, s_list_list, s_list_pair, s_list_either, s_list_left, s_list_right, s_list_thing, s_list_fault, s_list_worth, s_list_table, s_pair_num, s_pair_truth, s_pair_open, s_pair_list, s_pair_pair, s_pair_either, s_pair_left, s_pair_right, s_pair_thing, s_pair_fault, s_pair_worth, s_pair_table, s_either_num, s_either_truth, s_either_open, s_either_list, s_either_pair, s_either_either, s_either_left, s_either_right, s_either_thing, s_either_fault, s_either_worth, s_either_table, s_left_num, s_left_truth, s_left_open, s_left_list, s_left_pair, s_left_either, s_left_left, s_left_right, s_left_thing, s_left_fault, s_left_worth, s_left_table, s_right_num, s_right_truth, s_right_open, s_right_list, s_right_pair, s_right_either, s_right_left, s_right_right, s_right_thing, s_right_fault, s_right_worth, s_right_table, s_thing_num, s_thing_truth, s_thing_open, s_thing_list, s_thing_pair, s_thing_either, s_thing_left, s_thing_right, s_thing_thing, s_thing_fault, s_thing_worth, s_thing_table, s_fault_num, s_fault_truth, s_fault_open, s_fault_list, s_fault_pair, s_fault_either, s_fault_left, s_fault_right, s_fault_thing, s_fault_fault, s_fault_worth, s_fault_table, s_worth_num, s_worth_truth, s_worth_open, s_worth_list, s_worth_pair, s_worth_either, s_worth_left, s_worth_right, s_worth_thing, s_worth_fault, s_worth_worth, s_worth_table, s_table_num, s_table_truth, s_table_open, s_table_list, s_table_pair, s_table_either, s_table_left, s_table_right, s_table_thing, s_table_fault, s_table_worth, s_table_table]
    refine st_pow ⟨by decide, by decide, by decide⟩ ?_
    refine st_add ?_
    refine ⟨rfl, D, C, _, rfl, g1.dk, by decide, by decide, fun n S2 n0 n1 f2 => ?_⟩
    have f12 := f1.trans f2
    refine st_lst (by simp) (nw fun p S3 hp hpp x3 => ?_)
    have f3 := f12.ex x3
    obtain ⟨pD, pC⟩ := f12.dk.neS hp
    refine ⟨rfl, D, C, p, _, rfl, f3.dk, pD, pC, hpp, by simp, by simp, fun v S4 hv f4 => ?_⟩
    have hn : n ≤ 1000000 := by
      have : (10 : Int) ^ (6 : Int).toNat + 1 = 1000001 := by decide
      omega
    obtain ⟨m, rfl, m0, m1⟩ : ∃ m : Int, v = .int m ∧ 0 ≤ m ∧ m ≤ 1000000 := by
      simp only [List.mem_cons, List.not_mem_nil, or_false] at hv
      rcases hv with rfl | rfl | rfl | rfl | rfl
      · exact ⟨0, rfl, by decide, by decide⟩
      · exact ⟨1, rfl, by decide, by decide⟩
      · exact ⟨2, rfl, by decide, by decide⟩
      · exact ⟨7, rfl, by decide, by decide⟩
      · exact ⟨n, rfl, n0, hn⟩
    refine ⟨z4000 (by simp), z4000 (by simp), z4000 (by simp), z4000 (by simp), z4000 (by simp), z4000 (by simp), z4000 (by simp), ?_⟩
    exact fin (f3.trans f4) (own_num m0 m1) (by simp)
  | opn y =>
    try simp only [Kd.t, tsNx, tsSeq, tsBrk, tsCt, tsDrop, tsRet, tsRetN, tsIf, tsAsg, tgN, tgsNil, tgsCons, tgTup, tgSub, tsFor, tsWhile, tiSeq, tiRng1, tiRng2, tiZip, tb, tv, tc, tac, tan, ttup, tlst, tq, tand, tor, tnot, tife, tandV, torV, tnotV, tneg, tsl, tno, tpt, tcall, tbi, tml, tml0, tmj, tisi, tlRev, tlRng1, tdisp, tps, tlc_eq, tiEnumS, tixK, tiItems, tiVals, ttYes, bt1, btN, setsT, wipeT, endT, List.getElem?_cons_zero, List.getElem?_cons_succ, List.set_cons_zero, List.set_cons_succ]
    try simp only [s_open_fun, ev_t0, ev_t1, ev_t2, ev_eqs, ev_eqi, ev_intb, ev_inti, ev_add, ev_sub, ev_lt, ev_gt, ev_sl1, ev_in2, ev_lent, ev_isn, Bool.or_false, Bool.or_true, Bool.false_or, Bool.true_or, eqG_f, eqG_t, kq, Bool.not_true, Bool.not_false, if_true, if_false, ite_true, ite_false, reduceIte, s_num_num, s_num_truth, s_num_open, s_num_list, s_num_pair, s_num_either, s_num_left, s_num_right, s_num_thing, s_num_fault, s_num_worth, s_num_table, s_truth_num, s_truth_truth, s_truth_open, s_truth_list, s_truth_pair, s_truth_either, s_truth_left, s_truth_right, s_truth_thing, s_truth_fault, s_truth_worth, s_truth_table, s_open_num, s_open_truth, s_open_open, s_open_list, s_open_pair, s_open_either, s_open_left, s_open_right, s_open_thing, s_open_fault, s_open_worth, s_open_table, s_list_num, s_list_truth, s_list_open, s_list_list, s_list_pair, s_list_either, s_list_left, s_list_right, s_list_thing, s_list_fault, s_list_worth, s_list_table, s_pair_num, s_pair_truth, s_pair_open, s_pair_list, s_pair_pair, s_pair_either, s_pair_left, s_pair_right, s_pair_thing, s_pair_fault, s_pair_worth, s_pair_table, s_either_num, s_either_truth, s_either_open, s_either_list, s_either_pair, s_either_either, s_either_left, s_either_right, s_either_thing, s_either_fault, s_either_worth, s_either_table, s_left_num, s_left_truth, s_left_open, s_left_list, s_left_pair, s_left_either, s_left_left, s_left_right, s_left_thing, s_left_fault, s_left_worth, s_left_table, s_right_num, s_right_truth, s_right_open, s_right_list, s_right_pair, s_right_either, s_right_left, s_right_right, s_right_thing, s_right_fault, s_right_worth, s_right_table, s_thing_num, s_thing_truth, s_thing_open, s_thing_list, s_thing_pair, s_thing_either, s_thing_left, s_thing_right, s_thing_thing, s_thing_fault, s_thing_worth, s_thing_table, s_fault_num, s_fault_truth, s_fault_open, s_fault_list, s_fault_pair, s_fault_either, s_fault_left, s_fault_right, s_fault_thing, s_fault_fault, s_fault_worth, s_fault_table, s_worth_num, s_worth_truth, s_worth_open, s_worth_list, s_worth_pair, s_worth_either, s_worth_left, s_worth_right, s_worth_thing, s_worth_fault, s_worth_worth, s_worth_table, s_table_num, s_table_truth, s_table_open, s_table_list, s_table_pair, s_table_either, s_table_left, s_table_right, s_table_thing, s_table_fault, s_table_worth, s_table_table]
    rw [hv2]
    refine seq_cut fun v3 hv3 => ?_
    try simp only [Kd.t, tsNx, tsSeq, tsBrk, tsCt, tsDrop, tsRet, tsRetN, tsIf, tsAsg, tgN, tgsNil, tgsCons, tgTup, tgSub, tsFor, tsWhile, tiSeq, tiRng1, tiRng2, tiZip, tb, tv, tc, tac, tan, ttup, tlst, tq, tand, tor, tnot, tife, tandV, torV, tnotV, tneg, tsl, tno, tpt, tcall, tbi, tml, tml0, tmj, tisi, tlRev, tlRng1, tdisp, tps, tlc_eq, tiEnumS, tixK, tiItems, tiVals, ttYes, bt1, btN, setsT, wipeT, endT, List.getElem?_cons_zero, List.getElem?_cons_succ, List.set_cons_zero, List.set_cons_succ]
    try simp only [ev_t0, ev_t1, ev_t2, ev_eqs, ev_eqi, ev_intb, ev_inti, ev_add, ev_sub, ev_lt, ev_gt, ev_sl1, ev_in2, ev_lent, ev_isn, Bool.or_false, Bool.or_true, Bool.false_or, Bool.true_or, eqG_f, eqG_t, kq, Bool.not_true, Bool.not_false, if_true, if_false, ite_true, ite_false, reduceIte, s_num_num, s_num_truth, s_num_open, s_num_list, s_num_pair, s_num_either, s_num_left, s_num_right, s_num_thing, s_num_fault, s_num_worth, s_num_table, s_truth_num, s_truth_truth, s_truth_open, s_truth_list, s_truth_pair, s_truth_either, s_truth_left, s_truth_right, s_truth_thing, s_truth_fault, s_truth_worth, s_truth_table, s_open_num, s_open_truth, s_open_open, s_open_list, s_open_pair, s_open_either, s_open_left, s_open_right, s_open_thing, s_open_fault, s_open_worth, s_open_table, s_list_num, s_list_truth, s_list_open, s_list_list, s_list_pair, s_list_either, s_list_left, s_list_right, s_list_thing, s_list_fault, s_list_worth, s_list_table, s_pair_num, s_pair_truth, s_pair_open, s_pair_list, s_pair_pair, s_pair_either, s_pair_left, s_pair_right, s_pair_thing, s_pair_fault, s_pair_worth, s_pair_table, s_either_num, s_either_truth, s_either_open, s_either_list, s_either_pair, s_either_either, s_either_left, s_either_right, s_either_thing, s_either_fault, s_either_worth, s_either_table, s_left_num, s_left_truth, s_left_open, s_left_list, s_left_pair, s_left_either, s_left_left, s_left_right, s_left_thing, s_left_fault, s_left_worth, s_left_table, s_right_num, s_right_truth, s_right_open, s_right_list, s_right_pair, s_right_either, s_right_left, s_right_right, s_right_thing, s_right_fault, s_right_worth, s_right_table, s_thing_num, s_thing_truth, s_thing_open, s_thing_list, s_thing_pair, s_thing_either, s_thing_left, s_thing_right, s_thing_thing, s_thing_fault, s_thing_worth, s_thing_table, s_fault_num, s_fault_truth, s_fault_open, s_fault_list, s_fault_pair, s_fault_either, s_fault_left, s_fault_right, s_fault_thing, s_fault_fault, s_fault_worth, s_fault_table, s_worth_num, s_worth_truth, s_worth_open, s_worth_list, s_worth_pair, s_worth_either, s_worth_left, s_worth_right, s_worth_thing, s_worth_fault, s_worth_worth, s_worth_table, s_table_num, s_table_truth, s_table_open, s_table_list, s_table_pair, s_table_either, s_table_left, s_table_right, s_table_thing, s_table_fault, s_table_worth, s_table_table]
    rw [hv3]
    refine seq_cut fun v4 hv4 => ?_
    try simp only [Kd.t, tsNx, tsSeq, tsBrk, tsCt, tsDrop, tsRet, tsRetN, tsIf, tsAsg, tgN, tgsNil, tgsCons, tgTup, tgSub, tsFor, tsWhile, tiSeq, tiRng1, tiRng2, tiZip, tb, tv, tc, tac, tan, ttup, tlst, tq, tand, tor, tnot, tife, tandV, torV, tnotV, tneg, tsl, tno, tpt, tcall, tbi, tml, tml0, tmj, tisi, tlRev, tlRng1, tdisp, tps, tlc_eq, tiEnumS, tixK, tiItems, tiVals, ttYes, bt1, btN, setsT, wipeT, endT, List.getElem?_cons_zero, List.getElem?_cons_succ, List.set_cons_zero, List.set_cons_succ]
    try simp only [ev_t0, ev_t1, ev_t2, ev_eqs, ev_eqi, ev_intb, ev_inti, ev_add, ev_sub, ev_lt, ev_gt, ev_sl1, ev_in2, ev_lent, ev_isn, Bool.or_false, Bool.or_true, Bool.false_or, Bool.true_or, eqG_f, eqG_t, kq, Bool.not_true, Bool.not_false, if_true, if_false, ite_true, ite_false, reduceIte, s_num_num, s_num_truth, s_num_open, s_num_list, s_num_pair, s_num_either, s_num_left, s_num_right, s_num_thing, s_num_fault, s_num_worth, s_num_table, s_truth_num, s_truth_truth, s_truth_open, s_truth_list, s_truth_pair, s_truth_either, s_truth_left, s_truth_right, s_truth_thing, s_truth_fault, s_truth_worth, s_truth_table, s_open_num, s_open_truth, s_open_open, s_open_list, s_open_pair, s_open_either, s_open_left, s_open_right, s_open_thing, s_open_fault, s_open_worth, s_open_table, s_list_num, s_list_truth, s_list_open, s_list_list, s_list_pair, s_list_either, s_list_left, s_list_right, s_list_thing, s_list_fault, s_list_worth, s_list_table, s_pair_num, s_pair_truth, s_pair_open, s_pair_list, s_pair_pair, s_pair_either, s_pair_left, s_pair_right, s_pair_thing, s_pair_fault, s_pair_worth, s_pair_table, s_either_num, s_either_truth, s_either_open, s_either_list, s_either_pair, s_either_either, s_either_left, s_either_right, s_either_thing, s_either_fault, s_either_worth, s_either_table, s_left_num, s_left_truth, s_left_open, s_left_list, s_left_pair, s_left_either, s_left_left, s_left_right, s_left_thing, s_left_fault, s_left_worth, s_left_table, s_right_num, s_right_truth, s_right_open, s_right_list, s_right_pair, s_right_either, s_right_left, s_right_right, s_right_thing, s_right_fault, s_right_worth, s_right_table, s_thing_num, s_thing_truth, s_thing_open, s_thing_list, s_thing_pair, s_thing_either, s_thing_left, s_thing_right, s_thing_thing, s_thing_fault, s_thing_worth, s_thing_table, s_fault_num, s_fault_truth, s_fault_open, s_fault_list, s_fault_pair, s_fault_either, s_fault_left, s_fault_right, s_fault_thing, s_fault_fault, s_fault_worth, s_fault_table, s_worth_num, s_worth_truth, s_worth_open, s_worth_list, s_worth_pair, s_worth_either, s_worth_left, s_worth_right, s_worth_thing, s_worth_fault, s_worth_worth, s_worth_table, s_table_num, s_table_truth, s_table_open, s_table_list, s_table_pair, s_table_either, s_table_left, s_table_right, s_table_thing, s_table_fault, s_table_worth, s_table_table]
    rw [hv4]
    refine seq_cut fun v5 hv5 => ?_
    try simp only [Kd.t, tsNx, tsSeq, tsBrk, tsCt, tsDrop, tsRet, tsRetN, tsIf, tsAsg, tgN, tgsNil, tgsCons, tgTup, tgSub, tsFor, tsWhile, tiSeq, tiRng1, tiRng2, tiZip, tb, tv, tc, tac, tan, ttup, tlst, tq, tand, tor, tnot, tife, tandV, torV, tnotV, tneg, tsl, tno, tpt, tcall, tbi, tml, tml0, tmj, tisi, tlRev, tlRng1, tdisp, tps, tlc_eq, tiEnumS, tixK, tiItems, tiVals, ttYes, bt1, btN, setsT, wipeT, endT, List.getElem?_cons_zero, List.getElem?_cons_succ, List.set_cons_zero, List.set_cons_succ]
    try simp only [ev_t0, ev_t1, ev_t2, ev_eqs, ev_eqi, ev_intb, ev_inti, ev_add, ev_sub, ev_lt, ev_gt, ev_sl1, ev_in2, ev_lent, ev_isn, Bool.or_false, Bool.or_true, Bool.false_or, Bool.true_or, eqG_f, eqG_t, kq, Bool.not_true, Bool.not_false, if_true, if_false, ite_true, ite_false, reduceIte, s_num_num, s_num_truth, s_num_open, s_num_list, s_num_pair, s_num_either, s_num_left, s_num_right, s_num_thing, s_num_fault, s_num_worth, s_num_table, s_truth_num, s_truth_truth, s_truth_open, s_truth_list, s_truth_pair, s_truth_either, s_truth_left, s_truth_right, s_truth_thing, s_truth_fault, s_truth_worth, s_truth_table, s_open_num, s_open_truth, s_open_open, s_open_list, s_open_pair, s_open_either, s_open_left, s_open_right, s_open_thing, s_open_fault, s_open_worth, s_open_table, s_list_num, s_list_truth, s_list_open, s_list_list, s_list_pair, s_list_either, s_list_left, s_list_right, s_list_thing, s_list_fault, s_list_worth, s_list_table, s_pair_num, s_pair_truth, s_pair_open, s_pair_list, s_pair_pair, s_pair_either, s_pair_left, s_pair_right, s_pair_thing, s_pair_fault, s_pair_worth, s_pair_table, s_either_num, s_either_truth, s_either_open, s_either_list, s_either_pair, s_either_either, s_either_left, s_either_right, s_either_thing, s_either_fault, s_either_worth, s_either_table, s_left_num, s_left_truth, s_left_open, s_left_list, s_left_pair, s_left_either, s_left_left, s_left_right, s_left_thing, s_left_fault, s_left_worth, s_left_table, s_right_num, s_right_truth, s_right_open, s_right_list, s_right_pair, s_right_either, s_right_left, s_right_right, s_right_thing, s_right_fault, s_right_worth, s_right_table, s_thing_num, s_thing_truth, s_thing_open, s_thing_list, s_thing_pair, s_thing_either, s_thing_left, s_thing_right, s_thing_thing, s_thing_fault, s_thing_worth, s_thing_table, s_fault_num, s_fault_truth, s_fault_open, s_fault_list, s_fault_pair, s_fault_either, s_fault_left, s_fault_right, s_fault_thing, s_fault_fault, s_fault_worth, s_fault_table, s_worth_num, s_worth_truth, s_worth_open, s_worth_list, s_worth_pair, s_worth_either, s_worth_left, s_worth_right, s_worth_thing, s_worth_fault, s_worth_worth, s_worth_table, s_table_num, s_table_truth, s_table_open, s_table_list, s_table_pair, s_table_either, s_table_left, s_table_right, s_table_thing, s_table_fault, s_table_worth, s_table_table]
    rw [hv5]
    refine seq_cut fun v6 hv6 => ?_
    try simp only [Kd.t, tsNx, tsSeq, tsBrk, tsCt, tsDrop, tsRet, tsRetN, tsIf, tsAsg, tgN, tgsNil, tgsCons, tgTup, tgSub, tsFor, tsWhile, tiSeq, tiRng1, tiRng2, tiZip, tb, tv, tc, tac, tan, ttup, tlst, tq, tand, tor, tnot, tife, tandV, torV, tnotV, tneg, tsl, tno, tpt, tcall, tbi, tml, tml0, tmj, tisi, tlRev, tlRng1, tdisp, tps, tlc_eq, tiEnumS, tixK, tiItems, tiVals, ttYes, bt1, btN, setsT, wipeT, endT, List.getElem?_cons_zero, List.getElem?_cons_succ, List.set_cons_zero, List.set_cons_succ]
    try simp only [ev_t0, ev_t1, ev_t2, ev_eqs, ev_eqi, ev_intb, ev_inti, ev_add, ev_sub, ev_lt, ev_gt, ev_sl1, ev_in2, ev_lent, ev_isn, Bool.or_false, Bool.or_true, Bool.false_or, Bool.true_or, eqG_f, eqG_t, kq, Bool.not_true, Bool.not_false, if_true, if_false, ite_true, ite_false, reduceIte, s_num_num, s_num_truth, s_num_open, s_num_list, s_num_pair, s_num_either, s_num_left, s_num_right, s_num_thing, s_num_fault, s_num_worth, s_num_table, s_truth_num, s_truth_truth, s_truth_open, s_truth_list, s_truth_pair, s_truth_either, s_truth_left, s_truth_right, s_truth_thing, s_truth_fault, s_truth_worth, s_truth_table, s_open_num, s_open_truth, s_open_open, s_open_list, s_open_pair, s_open_either, s_open_left, s_open_right, s_open_thing, s_open_fault, s_open_worth, s_open_table, s_list_num, s_list_truth, s_list_open, s_list_list, s_list_pair, s_list_either, s_list_left, s_list_right, s_list_thing, s_list_fault, s_list_worth, s_list_table, s_pair_num, s_pair_truth, s_pair_open, s_pair_list, s_pair_pair, s_pair_either, s_pair_left, s_pair_right, s_pair_thing, s_pair_fault, s_pair_worth, s_pair_table, s_either_num, s_either_truth, s_either_open, s_either_list, s_either_pair, s_either_either, s_either_left, s_either_right, s_either_thing, s_either_fault, s_either_worth, s_either_table, s_left_num, s_left_truth, s_left_open, s_left_list, s_left_pair, s_left_either, s_left_left, s_left_right, s_left_thing, s_left_fault, s_left_worth, s_left_table, s_right_num, s_right_truth, s_right_open, s_right_list, s_right_pair, s_right_either, s_right_left, s_right_right, s_right_thing, s_right_fault, s_right_worth, s_right_table, s_thing_num, s_thing_truth, s_thing_open, s_thing_list, s_thing_pair, s_thing_either, s_thing_left, s_thing_right, s_thing_thing, s_thing_fault, s_thing_worth, s_thing_table, s_fault_num, s_fault_truth, s_fault_open, s_fault_list, s_fault_pair, s_fault_either, s_fault_left, s_fault_right, s_fault_thing, s_fault_fault, s_fault_worth, s_fault_table, s_worth_num, s_worth_truth, s_worth_open, s_worth_list, s_worth_pair, s_worth_either, s_worth_left, s_worth_right, s_worth_thing, s_worth_fault, s_worth_worth, s_worth_table, s_table_num, s_table_truth, s_table_open, s_table_list, s_table_pair, s_table_either, s_table_left, s_table_right, s_table_thing, s_table_fault, s_table_worth, s_table_table]
    rw [hv6]
    refine seq_cut fun v7 hv7 => ?_
    try simp only [Kd.t, tsNx, tsSeq, tsBrk, tsCt, tsDrop, tsRet, tsRetN, tsIf, tsAsg, tgN, tgsNil, tgsCons, tgTup, tgSub, tsFor, tsWhile, tiSeq, tiRng1, tiRng2, tiZip, tb, tv, tc, tac, tan, ttup, tlst, tq, tand, tor, tnot, tife, tandV, torV, tnotV, tneg, tsl, tno, tpt, tcall, tbi, tml, tml0, tmj, tisi, tlRev, tlRng1, tdisp, tps, tlc_eq, tiEnumS, tixK, tiItems, tiVals, ttYes, bt1, btN, setsT, wipeT, endT, List.getElem?_cons_zero, List.getElem?_cons_succ, List.set_cons_zero, List.set_cons_succ]
    try simp only [ev_t0, ev_t1, ev_t2, ev_eqs, ev_eqi, ev_intb, ev_inti, ev_add, ev_sub, ev_lt, ev_gt, ev_sl1, ev_in2, ev_lent, ev_isn, Bool.or_false, Bool.or_true, Bool.false_or, Bool.true_or, eqG_f, eqG_t, kq, Bool.not_true, Bool.not_false, if_true, if_false, ite_true, ite_false, reduceIte, s_num_num, s_num_truth, s_num_open, s_num_list, s_num_pair, s_num_either, s_num_left, s_num_right, s_num_thing, s_num_fault, s_num_worth, s_num_table, s_truth_num, s_truth_truth, s_truth_open, s_truth_list, s_truth_pair, s_truth_either, s_truth_left, s_truth_right, s_truth_thing, s_truth_fault, s_truth_worth, s_truth_table, s_open_num, s_open_truth, s_open_open, s_open_list, s_open_pair, s_open_either, s_open_left, s_open_right, s_open_thing, s_open_fault, s_open_worth, s_open_table, s_list_num, s_list_truth, s_list_open, s_list_list, s_list_pair, s_list_either, s_list_left, s_list_right, s_list_thing, s_list_fault, s_list_worth, s_list_table, s_pair_num, s_pair_truth, s_pair_open, s_pair_list, s_pair_pair, s_pair_either, s_pair_left, s_pair_right, s_pair_thing, s_pair_fault, s_pair_worth, s_pair_table, s_either_num, s_either_truth, s_either_open, s_either_list, s_either_pair, s_either_either, s_either_left, s_either_right, s_either_thing, s_either_fault, s_either_worth, s_either_table, s_left_num, s_left_truth, s_left_open, s_left_list, s_left_pair, s_left_either, s_left_left, s_left_right, s_left_thing, s_left_fault, s_left_worth, s_left_table, s_right_num, s_right_truth, s_right_open, s_right_list, s_right_pair, s_right_either, s_right_left, s_right_right, s_right_thing, s_right_fault, s_right_worth, s_right_table, s_thing_num, s_thing_truth, s_thing_open, s_thing_list, s_thing_pair, s_thing_either, s_thing_left, s_thing_right, s_thing_thing, s_thing_fault, s_thing_worth, s_thing_table, s_fault_num, s_fault_truth, s_fault_open, s_fault_list, s_fault_pair, s_fault_either, s_fault_left, s_fault_right, s_fault_thing, s_fault_fault, s_fault_worth, s_fault_table, s_worth_num, s_worth_truth, s_worth_open, s_worth_list, s_worth_pair, s_worth_either, s_worth_left, s_worth_right, s_worth_thing, s_worth_fault, s_worth_worth, s_worth_table, s_table_num, s_table_truth, s_table_open, s_table_list, s_table_pair, s_table_either, s_table_left, s_table_right, s_table_thing, s_table_fault, s_table_worth, s_table_table]
    rw [hv7]
    try simp only [Kd.t, tsNx, tsSeq, tsBrk, tsCt, tsDrop, tsRet, tsRetN, tsIf, tsAsg, tgN, tgsNil, tgsCons, tgTup, tgSub, tsFor, tsWhile, tiSeq, tiRng1, tiRng2, tiZip, tb, tv, tc, tac, tan, ttup, tlst, tq, tand, tor, tnot, tife, tandV, torV, tnotV, tneg, tsl, tno, tpt, tcall, tbi, tml, tml0, tmj, tisi, tlRev, tlRng1, tdisp, tps, tlc_eq, tiEnumS, tixK, tiItems, tiVals, ttYes, bt1, btN, setsT, wipeT, endT, List.getElem?_cons_zero, List.getElem?_cons_succ, List.set_cons_zero, List.set_cons_succ]
    refine ⟨z4000 (by simp), z4000 (by simp), ?_⟩
    exact fin f1 (own_opn g.kg) (by simp)
  | lst k =>
    try simp only [Kd.t, tsNx, tsSeq, tsBrk, tsCt, tsDrop, tsRet, tsRetN, tsIf, tsAsg, tgN, tgsNil, tgsCons, tgTup, tgSub, tsFor, tsWhile, tiSeq, tiRng1, tiRng2, tiZip, tb, tv, tc, tac, tan, ttup, tlst, tq, tand, tor, tnot, tife, tandV, torV, tnotV, tneg, tsl, tno, tpt, tcall, tbi, tml, tml0, tmj, tisi, tlRev, tlRng1, tdisp, tps, tlc_eq, tiEnumS, tixK, tiItems, tiVals, ttYes, bt1, btN, setsT, wipeT, endT, List.getElem?_cons_zero, List.getElem?_cons_succ, List.set_cons_zero, List.set_cons_succ]
    try simp only [s_list_fun, ev_t0, ev_t1, ev_t2, ev_eqs, ev_eqi, ev_intb, ev_inti, ev_add, ev_sub, ev_lt, ev_gt, ev_sl1, ev_in2, ev_lent, ev_isn, Bool.or_false, Bool.or_true, Bool.false_or, Bool.true_or, eqG_f, eqG_t, kq, Bool.not_true, Bool.not_false, if_true, if_false, ite_true, ite_false, reduceIte, s_num_num, s_num_truth, s_num_open, s_num_list, s_num_pair, s_num_either, s_num_left, s_num_right, s_num_thing, s_num_fault, s_num_worth, s_num_table, s_truth_num, s_truth_truth, s_truth_open, s_truth_list, s_truth_pair, s_truth_either, s_truth_left, s_truth_right, s_truth_thing, s_truth_fault, s_truth_worth, s_truth_table, s_open_num, s_open_truth, s_open_open, s_open_list, s_open_pair, s_open_either, s_open_left, s_open_right, s_open_thing, s_open_fault, s_open_worth, s_open_table, s_list_num, s_list_truth, s_list_open, s_list_list, s_list_pair, s_list_either, s_list_left, s_list_right, s_list_thing, s_list_fault, s_list_worth, s_list_table, s_pair_num, s_pair_truth, s_pair_open, s_pair_list, s_pair_pair, s_pair_either, s_pair_left, s_pair_right, s_pair_thing, s_pair_fault, s_pair_worth, s_pair_table, s_either_num, s_either_truth, s_either_open, s_either_list, s_either_pair, s_either_either, s_either_left, s_either_right, s_either_thing, s_either_fault, s_either_worth, s_either_table, s_left_num, s_left_truth, s_left_open, s_left_list, s_left_pair, s_left_either, s_left_left, s_left_right, s_left_thing, s_left_fault, s_left_worth, s_left_table, s_right_num, s_right_truth, s_right_open, s_right_list, s_right_pair, s_right_either, s_right_left, s_right_right, s_right_thing, s_right_fault, s_right_worth, s_right_table, s_thing_num, s_thing_truth, s_thing_open, s_thing_list, s_thing_pair, s_thing_either, s_thing_left, s_thing_right, s_thing_thing, s_thing_fault, s_thing_worth, s_thing_table, s_fault_num, s_fault_truth, s_fault_open, s_fault_list, s_fault_pair, s_fault_either, s_fault_left, s_fault_right, s_fault_thing, s_fault_fault, s_fault_worth, s_fault_table, s_worth_num, s_worth_truth, s_worth_open, s_worth_list, s_worth_pair, s_worth_either, s_worth_left, s_worth_right, s_worth_thing, s_worth_fault, s_worth_worth, s_worth_table, s_table_num, s_table_truth, s_table_open, s_table_list, s_table_pair, s_table_either, s_table_left, s_table_right, s_table_thing, s_table_fault, s_table_worth, s_table_table]
    rw [hv2]
    refine seq_cut fun v3 hv3 => ?_
    try simp only [Kd.t, tsNx, tsSeq, tsBrk, tsCt, tsDrop, tsRet, tsRetN, tsIf, tsAsg, tgN, tgsNil, tgsCons, tgTup, tgSub, tsFor, tsWhile, tiSeq, tiRng1, tiRng2, tiZip, tb, tv, tc, tac, tan, ttup, tlst, tq, tand, tor, tnot, tife, tandV, torV, tnotV, tneg, tsl, tno, tpt, tcall, tbi, tml, tml0, tmj, tisi, tlRev, tlRng1, tdisp, tps, tlc_eq, tiEnumS, tixK, tiItems, tiVals, ttYes, bt1, btN, setsT, wipeT, endT, List.getElem?_cons_zero, List.getElem?_cons_succ, List.set_cons_zero, List.set_cons_succ]
    try simp only [ev_t0, ev_t1, ev_t2, ev_eqs, ev_eqi, ev_intb, ev_inti, ev_add, ev_sub, ev_lt, ev_gt, ev_sl1, ev_in2, ev_lent, ev_isn, Bool.or_false, Bool.or_true, Bool.false_or, Bool.true_or, eqG_f, eqG_t, kq, Bool.not_true, Bool.not_false, if_true, if_false, ite_true, ite_false, reduceIte, s_num_num, s_num_truth, s_num_open, s_num_list, s_num_pair, s_num_either, s_num_left, s_num_right, s_num_thing, s_num_fault, s_num_worth, s_num_table, s_truth_num, s_truth_truth, s_truth_open, s_truth_list, s_truth_pair, s_truth_either, s_truth_left, s_truth_right, s_truth_thing, s_truth_fault, s_truth_worth, s_truth_table, s_open_num, s_open_truth, s_open_open, s_open_list, s_open_pair, s_open_either, s_open_left, s_open_right, s_open_thing, s_open_fault, s_open_worth, s_open_table, s_list_num, s_list_truth, s_list_open, s_list_list, s_list_pair, s_list_either, s_list_left, s_list_right, s_list_thing, s_list_fault, s_list_worth, s_list_table, s_pair_num, s_pair_truth, s_pair_open, s_pair_list, s_pair_pair, s_pair_either, s_pair_left, s_pair_right, s_pair_thing, s_pair_fault, s_pair_worth, s_pair_table, s_either_num, s_either_truth, s_either_open, s_either_list, s_either_pair, s_either_either, s_either_left, s_either_right, s_either_thing, s_either_fault, s_either_worth, s_either_table, s_left_num, s_left_truth, s_left_open, s_left_list, s_left_pair, s_left_either, s_left_left, s_left_right, s_left_thing, s_left_fault, s_left_worth, s_left_table, s_right_num, s_right_truth, s_right_open, s_right_list, s_right_pair, s_right_either, s_right_left, s_right_right, s_right_thing, s_right_fault, s_right_worth, s_right_table, s_thing_num, s_thing_truth, s_thing_open, s_thing_list, s_thing_pair, s_thing_either, s_thing_left, s_thing_right, s_thing_thing, s_thing_fault, s_thing_worth, s_thing_table, s_fault_num, s_fault_truth, s_fault_open, s_fault_list, s_fault_pair, s_fault_either, s_fault_left, s_fault_right, s_fault_thing, s_fault_fault, s_fault_worth, s_fault_table, s_worth_num, s_worth_truth, s_worth_open, s_worth_list, s_worth_pair, s_worth_either, s_worth_left, s_worth_right, s_worth_thing, s_worth_fault, s_worth_worth, s_worth_table, s_table_num, s_table_truth, s_table_open, s_table_list, s_table_pair, s_table_either, s_table_left, s_table_right, s_table_thing, s_table_fault, s_table_worth, s_table_table]
    rw [hv3]
    refine seq_cut fun v4 hv4 => ?_
    try simp only [Kd.t, tsNx, tsSeq, tsBrk, tsCt, tsDrop, tsRet, tsRetN, tsIf, tsAsg, tgN, tgsNil, tgsCons, tgTup, tgSub, tsFor, tsWhile, tiSeq, tiRng1, tiRng2, tiZip, tb, tv, tc, tac, tan, ttup, tlst, tq, tand, tor, tnot, tife, tandV, torV, tnotV, tneg, tsl, tno, tpt, tcall, tbi, tml, tml0, tmj, tisi, tlRev, tlRng1, tdisp, tps, tlc_eq, tiEnumS, tixK, tiItems, tiVals, ttYes, bt1, btN, setsT, wipeT, endT, List.getElem?_cons_zero, List.getElem?_cons_succ, List.set_cons_zero, List.set_cons_succ]
    try simp only [ev_t0, ev_t1, ev_t2, ev_eqs, ev_eqi, ev_intb, ev_inti, ev_add, ev_sub, ev_lt, ev_gt, ev_sl1, ev_in2, ev_lent, ev_isn, Bool.or_false, Bool.or_true, Bool.false_or, Bool.true_or, eqG_f, eqG_t, kq, Bool.not_true, Bool.not_false, if_true, if_false, ite_true, ite_false, reduceIte, s_num_num, s_num_truth, s_num_open, s_num_list, s_num_pair, s_num_either, s_num_left, s_num_right, s_num_thing, s_num_fault, s_num_worth, s_num_table, s_truth_num, s_truth_truth, s_truth_open, s_truth_list, s_truth_pair, s_truth_either, s_truth_left, s_truth_right, s_truth_thing, s_truth_fault, s_truth_worth, s_truth_table, s_open_num, s_open_truth, s_open_open, s_open_list, s_open_pair, s_open_either, s_open_left, s_open_right, s_open_thing, s_open_fault, s_open_worth, s_open_table, s_list_num, s_list_truth, s_list_open, s_list_list, s_list_pair, s_list_either, s_list_left, s_list_right, s_list_thing, s_list_fault, s_list_worth, s_list_table, s_pair_num, s_pair_truth, s_pair_open, s_pair_list, s_pair_pair, s_pair_either, s_pair_left, s_pair_right, s_pair_thing, s_pair_fault, s_pair_worth, s_pair_table, s_either_num, s_either_truth, s_either_open, s_either_list, s_either_pair, s_either_either, s_either_left, s_either_right, s_either_thing, s_either_fault, s_either_worth, s_either_table, s_left_num, s_left_truth, s_left_open, s_left_list, s_left_pair, s_left_either, s_left_left, s_left_right, s_left_thing, s_left_fault, s_left_worth, s_left_table, s_right_num, s_right_truth, s_right_open, s_right_list, s_right_pair, s_right_either, s_right_left, s_right_right, s_right_thing, s_right_fault, s_right_worth, s_right_table, s_thing_num, s_thing_truth, s_thing_open, s_thing_list, s_thing_pair, s_thing_either, s_thing_left, s_thing_right, s_thing_thing, s_thing_fault, s_thing_worth, s_thing_table, s_fault_num, s_fault_truth, s_fault_open, s_fault_list, s_fault_pair, s_fault_either, s_fault_left, s_fault_right, s_fault_thing, s_fault_fault, s_fault_worth, s_fault_table, s_worth_num, s_worth_truth, s_worth_open, s_worth_list, s_worth_pair, s_worth_either, s_worth_left, s_worth_right, s_worth_thing, s_worth_fault, s_worth_worth, s_worth_table, s_table_num, s_table_truth, s_table_open, s_table_list, s_table_pair, s_table_either, s_table_left, s_table_right, s_table_thing, s_table_fault, s_table_worth, s_table_table]
    rw [hv4]
    refine seq_cut fun v5 hv5 => ?_
    try simp only [Kd.t, tsNx, tsSeq, tsBrk, tsCt, tsDrop, tsRet, tsRetN, tsIf, tsAsg, tgN, tgsNil, tgsCons, tgTup, tgSub, tsFor, tsWhile, tiSeq, tiRng1, tiRng2, tiZip, tb, tv, tc, tac, tan, ttup, tlst, tq, tand, tor, tnot, tife, tandV, torV, tnotV, tneg, tsl, tno, tpt, tcall, tbi, tml, tml0, tmj, tisi, tlRev, tlRng1, tdisp, tps, tlc_eq, tiEnumS, tixK, tiItems, tiVals, ttYes, bt1, btN, setsT, wipeT, endT, List.getElem?_cons_zero, List.getElem?_cons_succ, List.set_cons_zero, List.set_cons_succ]
    try simp only [ev_t0, ev_t1, ev_t2, ev_eqs, ev_eqi, ev_intb, ev_inti, ev_add, ev_sub, ev_lt, ev_gt, ev_sl1, ev_in2, ev_lent, ev_isn, Bool.or_false, Bool.or_true, Bool.false_or, Bool.true_or, eqG_f, eqG_t, kq, Bool.not_true, Bool.not_false, if_true, if_false, ite_true, ite_false, reduceIte, s_num_num, s_num_truth, s_num_open, s_num_list, s_num_pair, s_num_either, s_num_left, s_num_right, s_num_thing, s_num_fault, s_num_worth, s_num_table, s_truth_num, s_truth_truth, s_truth_open, s_truth_list, s_truth_pair, s_truth_either, s_truth_left, s_truth_right, s_truth_thing, s_truth_fault, s_truth_worth, s_truth_table, s_open_num, s_open_truth, s_open_open, s_open_list, s_open_pair, s_open_either, s_open_left, s_open_right, s_open_thing, s_open_fault, s_open_worth, s_open_table, s_list_num, s_list_truth, s_list_open, s_list_list, s_list_pair, s_list_either, s_list_left, s_list_right, s_list_thing, s_list_fault, s_list_worth, s_list_table, s_pair_num, s_pair_truth, s_pair_open, s_pair_list, s_pair_pair, s_pair_either, s_pair_left, s_pair_right, s_pair_thing, s_pair_fault, s_pair_worth, s_pair_table, s_either_num, s_either_truth, s_either_open, s_either_list, s_either_pair, s_either_either, s_either_left, s_either_right, s_either_thing, s_either_fault, s_either_worth, s_either_table, s_left_num, s_left_truth, s_left_open, s_left_list, s_left_pair, s_left_either, s_left_left, s_left_right, s_left_thing, s_left_fault, s_left_worth, s_left_table, s_right_num, s_right_truth, s_right_open, s_right_list, s_right_pair, s_right_either, s_right_left, s_right_right, s_right_thing, s_right_fault, s_right_worth, s_right_table, s_thing_num, s_thing_truth, s_thing_open, s_thing_list, s_thing_pair, s_thing_either, s_thing_left, s_thing_right, s_thing_thing, s_thing_fault, s_thing_worth, s_thing_table, s_fault_num, s_fault_truth, s_fault_open, s_fault_list, s_fault_pair, s_fault_either, s_fault_left, s_fault_right, s_fault_thing, s_fault_fault, s_fault_worth, s_fault_table, s_worth_num, s_worth_truth, s_worth_open, s_worth_list, s_worth_pair, s_worth_either, s_worth_left, s_worth_right, s_worth_thing, s_worth_fault, s_worth_worth, s_worth_table, s_table_num, s_table_truth, s_table_open, s_table_list, s_table_pair, s_table_either, s_table_left, s_table_right, s_table_thing, s_table_fault, s_table_worth, s_table_table]
    rw [hv5]
    refine seq_cut fun v6 hv6 => ?_
    try simp only [Kd.t, tsNx, tsSeq, tsBrk, tsCt, tsDrop, tsRet, tsRetN, tsIf, tsAsg, tgN, tgsNil, tgsCons, tgTup, tgSub, tsFor, tsWhile, tiSeq, tiRng1, tiRng2, tiZip, tb, tv, tc, tac, tan, ttup, tlst, tq, tand, tor, tnot, tife, tandV, torV, tnotV, tneg, tsl, tno, tpt, tcall, tbi, tml, tml0, tmj, tisi, tlRev, tlRng1, tdisp, tps, tlc_eq, tiEnumS, tixK, tiItems, tiVals, ttYes, bt1, btN, setsT, wipeT, endT, List.getElem?_cons_zero, List.getElem?_cons_succ, List.set_cons_zero, List.set_cons_succ]
    try simp only [ev_t0, ev_t1, ev_t2, ev_eqs, ev_eqi, ev_intb, ev_inti, ev_add, ev_sub, ev_lt, ev_gt, ev_sl1, ev_in2, ev_lent, ev_isn, Bool.or_false, Bool.or_true, Bool.false_or, Bool.true_or, eqG_f, eqG_t, kq, Bool.not_true, Bool.not_false, if_true, if_false, ite_true, ite_false, reduceIte, s_num_num, s_num_truth, s_num_open, s_num_list, s_num_pair, s_num_either, s_num_left, s_num_right, s_num_thing, s_num_fault, s_num_worth, s_num_table, s_truth_num, s_truth_truth, s_truth_open, s_truth_list, s_truth_pair, s_truth_either, s_truth_left, s_truth_right, s_truth_thing, s_truth_fault, s_truth_worth, s_truth_table, s_open_num, s_open_truth, s_open_open, s_open_list, s_open_pair, s_open_either, s_open_left, s_open_right, s_open_thing, s_open_fault, s_open_worth, s_open_table, s_list_num, s_list_truth, s_list_open, s_list_list, s_list_pair, s_list_either, s_list_left, s_list_right, s_list_thing, s_list_fault, s_list_worth, s_list_table, s_pair_num, s_pair_truth, s_pair_open, s_pair_list, s_pair_pair, s_pair_either, s_pair_left, s_pair_right, s_pair_thing, s_pair_fault, s_pair_worth, s_pair_table, s_either_num, s_either_truth, s_either_open, s_either_list, s_either_pair, s_either_either, s_either_left, s_either_right, s_either_thing, s_either_fault, s_either_worth, s_either_table, s_left_num, s_left_truth, s_left_open, s_left_list, s_left_pair, s_left_either, s_left_left, s_left_right, s_left_thing, s_left_fault, s_left_worth, s_left_table, s_right_num, s_right_truth, s_right_open, s_right_list, s_right_pair, s_right_either, s_right_left, s_right_right, s_right_thing, s_right_fault, s_right_worth, s_right_table, s_thing_num, s_thing_truth, s_thing_open, s_thing_list, s_thing_pair, s_thing_either, s_thing_left, s_thing_right, s_thing_thing, s_thing_fault, s_thing_worth, s_thing_table, s_fault_num, s_fault_truth, s_fault_open, s_fault_list, s_fault_pair, s_fault_either, s_fault_left, s_fault_right, s_fault_thing, s_fault_fault, s_fault_worth, s_fault_table, s_worth_num, s_worth_truth, s_worth_open, s_worth_list, s_worth_pair, s_worth_either, s_worth_left, s_worth_right, s_worth_thing, s_worth_fault, s_worth_worth, s_worth_table, s_table_num, s_table_truth, s_table_open, s_table_list, s_table_pair, s_table_either, s_table_left, s_table_right, s_table_thing, s_table_fault, s_table_worth, s_table_table]
    rw [hv6]
    refine seq_cut fun v7 hv7 => ?_
    try simp only [Kd.t, tsNx, tsSeq, tsBrk, tsCt, tsDrop, tsRet, tsRetN, tsIf, tsAsg, tgN, tgsNil, tgsCons, tgTup, tgSub, tsFor, tsWhile, tiSeq, tiRng1, tiRng2, tiZip, tb, tv, tc, tac, tan, ttup, tlst, tq, tand, tor, tnot, tife, tandV, torV, tnotV, tneg, tsl, tno, tpt, tcall, tbi, tml, tml0, tmj, tisi, tlRev, tlRng1, tdisp, tps, tlc_eq, tiEnumS, tixK, tiItems, tiVals, ttYes, bt1, btN, setsT, wipeT, endT, List.getElem?_cons_zero, List.getElem?_cons_succ, List.set_cons_zero, List.set_cons_succ]
    try simp only [ev_t0, ev_t1, ev_t2, ev_eqs, ev_eqi, ev_intb, ev_inti, ev_add, ev_sub, ev_lt, ev_gt, ev_sl1, ev_in2, ev_lent, ev_isn, Bool.or_false, Bool.or_true, Bool.false_or, Bool.true_or, eqG_f, eqG_t, kq, Bool.not_true, Bool.not_false, if_true, if_false, ite_true, ite_false, reduceIte, s_num_num, s_num_truth, s_num_open, s_num_list, s_num_pair, s_num_either, s_num_left, s_num_right, s_num_thing, s_num_fault, s_num_worth, s_num_table, s_truth_num, s_truth_truth, s_truth_open, s_truth_list, s_truth_pair, s_truth_either, s_truth_left, s_truth_right, s_truth_thing, s_truth_fault, s_truth_worth, s_truth_table, s_open_num, s_open_truth, s_open_open, s_open_list, s_open_pair, s_open_either, s_open_left, s_open_right, s_open_thing, s_open_fault, s_open_worth, s_open_table, s_list_num, s_list_truth, s_list_open, s_list_list, s_list_pair, s_list_either, s_list_left, s_list_right, s_list_thing, s_list_fault, s_list_worth, s_list_table, s_pair_num, s_pair_truth, s_pair_open, s_pair_list, s_pair_pair, s_pair_either, s_pair_left, s_pair_right, s_pair_thing, s_pair_fault, s_pair_worth, s_pair_table, s_either_num, s_either_truth, s_either_open, s_either_list, s_either_pair, s_either_either, s_either_left, s_either_right, s_either_thing, s_either_fault, s_either_worth, s_either_table, s_left_num, s_left_truth, s_left_open, s_left_list, s_left_pair, s_left_either, s_left_left, s_left_right, s_left_thing, s_left_fault, s_left_worth, s_left_table, s_right_num, s_right_truth, s_right_open, s_right_list, s_right_pair, s_right_either, s_right_left, s_right_right, s_right_thing, s_right_fault, s_right_worth, s_right_table, s_thing_num, s_thing_truth, s_thing_open, s_thing_list, s_thing_pair, s_thing_either, s_thing_left, s_thing_right, s_thing_thing, s_thing_fault, s_thing_worth, s_thing_table, s_fault_num, s_fault_truth, s_fault_open, s_fault_list, s_fault_pair, s_fault_either, s_fault_left, s_fault_right, s_fault_thing, s_fault_fault, s_fault_worth, s_fault_table, s_worth_num, s_worth_truth, s_worth_open, s_worth_list, s_worth_pair, s_worth_either, s_worth_left, s_worth_right, s_worth_thing, s_worth_fault, s_worth_worth, s_worth_table, s_table_num, s_table_truth, s_table_open, s_table_list, s_table_pair, s_table_either, s_table_left, s_table_right, s_table_thing, s_table_fault, s_table_worth, s_table_table]
    refine ⟨z4000 (by simp), z4000 (by simp), z4000 (by simp), z4000 (by simp), z4000 (by simp), z4000 (by simp), z4000 (by simp), ?_⟩
    exact fin f1 (own_lst g.kg) (by simp)
  | pair a b =>
    try simp only [Kd.t, tsNx, tsSeq, tsBrk, tsCt, tsDrop, tsRet, tsRetN, tsIf, tsAsg, tgN, tgsNil, tgsCons, tgTup, tgSub, tsFor, tsWhile, tiSeq, tiRng1, tiRng2, tiZip, tb, tv, tc, tac, tan, ttup, tlst, tq, tand, tor, tnot, tife, tandV, torV, tnotV, tneg, tsl, tno, tpt, tcall, tbi, tml, tml0, tmj, tisi, tlRev, tlRng1, tdisp, tps, tlc_eq, tiEnumS, tixK, tiItems, tiVals, ttYes, bt1, btN, setsT, wipeT, endT, List.getElem?_cons_zero, List.getElem?_cons_succ, List.set_cons_zero, List.set_cons_succ]
    try simp only [s_pair_fun, ev_t0, ev_t1, ev_t2, ev_eqs, ev_eqi, ev_intb, ev_inti, ev_add, ev_sub, ev_lt, ev_gt, ev_sl1, ev_in2, ev_lent, ev_isn, Bool.or_false, Bool.or_true, Bool.false_or, Bool.true_or, eqG_f, eqG_t, kq, Bool.not_true, Bool.not_false, if_true, if_false, ite_true, ite_false, reduceIte, s_num_num, s_num_truth, s_num_open, s_num_list, s_num_pair, s_num_either, s_num_left, s_num_right, s_num_thing, s_num_fault, s_num_worth, s_num_table, s_truth_num, s_truth_truth, s_truth_open, s_truth_list, s_truth_pair, s_truth_either, s_truth_left, s_truth_right, s_truth_thing, s_truth_fault, s_truth_worth, s_truth_table, s_open_num, s_open_truth, s_open_open, s_open_list, s_open_pair, s_open_either, s_open_left, s_open_right, s_open_thing, s_open_fault, s_open_worth, s_open_table, s_list_num, s_list_truth, s_list_open, s_list_list, s_list_pair, s_list_either, s_list_left, s_list_right, s_list_thing, s_list_fault, s_list_worth, s_list_table, s_pair_num, s_pair_truth, s_pair_open, s_pair_list, s_pair_pair, s_pair_either, s_pair_left, s_pair_right, s_pair_thing, s_pair_fault, s_pair_worth, s_pair_table, s_either_num, s_either_truth, s_either_open, s_either_list, s_either_pair, s_either_either, s_either_left, s_either_right, s_either_thing, s_either_fault, s_either_worth, s_either_table, s_left_num, s_left_truth, s_left_open, s_left_list, s_left_pair, s_left_either, s_left_left, s_left_right, s_left_thing, s_left_fault, s_left_worth, s_left_table, s_right_num, s_right_truth, s_right_open, s_right_list, s_right_pair, s_right_either, s_right_left, s_right_right, s_right_thing, s_right_fault, s_right_worth, s_right_table, s_thing_num, s_thing_truth, s_thing_open, s_thing_list, s_thing_pair, s_thing_either, s_thing_left, s_thing_right, s_thing_thing, s_thing_fault, s_thing_worth, s_thing_table, s_fault_num, s_fault_truth, s_fault_open, s_fault_list, s_fault_pair, s_fault_either, s_fault_left, s_fault_right, s_fault_thing, s_fault_fault, s_fault_worth, s_fault_table, s_worth_num, s_worth_truth, s_worth_open, s_worth_list, s_worth_pair, s_worth_either, s_worth_left, s_worth_right, s_worth_thing, s_worth_fault, s_worth_worth, s_worth_table, s_table_num, s_table_truth, s_table_open, s_table_list, s_table_pair, s_table_either, s_table_left, s_table_right, s_table_thing, s_table_fault, s_table_worth, s_table_table]
    rw [hv2]
    refine seq_cut fun v3 hv3 => ?_
    try simp only [Kd.t, tsNx, tsSeq, tsBrk, tsCt, tsDrop, tsRet, tsRetN, tsIf, tsAsg, tgN, tgsNil, tgsCons, tgTup, tgSub, tsFor, tsWhile, tiSeq, tiRng1, tiRng2, tiZip, tb, tv, tc, tac, tan, ttup, tlst, tq, tand, tor, tnot, tife, tandV, torV, tnotV, tneg, tsl, tno, tpt, tcall, tbi, tml, tml0, tmj, tisi, tlRev, tlRng1, tdisp, tps, tlc_eq, tiEnumS, tixK, tiItems, tiVals, ttYes, bt1, btN, setsT, wipeT, endT, List.getElem?_cons_zero, List.getElem?_cons_succ, List.set_cons_zero, List.set_cons_succ]
    try simp only [ev_t0, ev_t1, ev_t2, ev_eqs, ev_eqi, ev_intb, ev_inti, ev_add, ev_sub, ev_lt, ev_gt, ev_sl1, ev_in2, ev_lent, ev_isn, Bool.or_false, Bool.or_true, Bool.false_or, Bool.true_or, eqG_f, eqG_t, kq, Bool.not_true, Bool.not_false, if_true, if_false, ite_true, ite_false, reduceIte, s_num_num, s_num_truth, s_num_open, s_num_list, s_num_pair, s_num_either, s_num_left, s_num_right, s_num_thing, s_num_fault, s_num_worth, s_num_table, s_truth_num, s_truth_truth, s_truth_open, s_truth_list, s_truth_pair, s_truth_either, s_truth_left, s_truth_right, s_truth_thing, s_truth_fault, s_truth_worth, s_truth_table, s_open_num, s_open_truth, s_open_open, s_open_list, s_open_pair, s_open_either, s_open_left, s_open_right, s_open_thing, s_open_fault, s_open_worth, s_open_table, s_list_num, s_list_truth, s_list_open, s_list_list, s_list_pair, s_list_either, s_list_left, s_list_right, s_list_thing, s_list_fault, s_list_worth, s_list_table, s_pair_num, s_pair_truth, s_pair_open, s_pair_list, s_pair_pair, s_pair_either, s_pair_left, s_pair_right, s_pair_thing, s_pair_fault, s_pair_worth, s_pair_table, s_either_num, s_either_truth, s_either_open, s_either_list, s_either_pair, s_either_either, s_either_left, s_either_right, s_either_thing, s_either_fault, s_either_worth, s_either_table, s_left_num, s_left_truth, s_left_open, s_left_list, s_left_pair, s_left_either, s_left_left, s_left_right, s_left_thing, s_left_fault, s_left_worth, s_left_table, s_right_num, s_right_truth, s_right_open, s_right_list, s_right_pair, s_right_either, s_right_left, s_right_right, s_right_thing, s_right_fault, s_right_worth, s_right_table, s_thing_num, s_thing_truth, s_thing_open, s_thing_list, s_thing_pair, s_thing_either, s_thing_left, s_thing_right, s_thing_thing, s_thing_fault, s_thing_worth, s_thing_table, s_fault_num, s_fault_truth, s_fault_open, s_fault_list, s_fault_pair, s_fault_either, s_fault_left, s_fault_right, s_fault_thing, s_fault_fault, s_fault_worth, s_fault_table, s_worth_num, s_worth_truth, s_worth_open, s_worth_list, s_worth_pair, s_worth_either, s_worth_left, s_worth_right, s_worth_thing, s_worth_fault, s_worth_worth, s_worth_table, s_table_num, s_table_truth, s_table_open, s_table_list, s_table_pair, s_table_either, s_table_left, s_table_right, s_table_thing, s_table_fault, s_table_worth, s_table_table]
    rw [hv3]
    refine seq_cut fun v4 hv4 => ?_
    try simp only [Kd.t, tsNx, tsSeq, tsBrk, tsCt, tsDrop, tsRet, tsRetN, tsIf, tsAsg, tgN, tgsNil, tgsCons, tgTup, tgSub, tsFor, tsWhile, tiSeq, tiRng1, tiRng2, tiZip, tb, tv, tc, tac, tan, ttup, tlst, tq, tand, tor, tnot, tife, tandV, torV, tnotV, tneg, tsl, tno, tpt, tcall, tbi, tml, tml0, tmj, tisi, tlRev, tlRng1, tdisp, tps, tlc_eq, tiEnumS, tixK, tiItems, tiVals, ttYes, bt1, btN, setsT, wipeT, endT, List.getElem?_cons_zero, List.getElem?_cons_succ, List.set_cons_zero, List.set_cons_succ]
    try simp only [ev_t0, ev_t1, ev_t2, ev_eqs, ev_eqi, ev_intb, ev_inti, ev_add, ev_sub, ev_lt, ev_gt, ev_sl1, ev_in2, ev_lent, ev_isn, Bool.or_false, Bool.or_true, Bool.false_or, Bool.true_or, eqG_f, eqG_t, kq, Bool.not_true, Bool.not_false, if_true, if_false, ite_true, ite_false, reduceIte, s_num_num, s_num_truth, s_num_open, s_num_list, s_num_pair, s_num_either, s_num_left, s_num_right, s_num_thing, s_num_fault, s_num_worth, s_num_table, s_truth_num, s_truth_truth, s_truth_open, s_truth_list, s_truth_pair, s_truth_either, s_truth_left, s_truth_right, s_truth_thing, s_truth_fault, s_truth_worth, s_truth_table, s_open_num, s_open_truth, s_open_open, s_open_list, s_open_pair, s_open_either, s_open_left, s_open_right, s_open_thing, s_open_fault, s_open_worth, s_open_table, s_list_num, s_list_truth, s_list_open, s_list_list, s_list_pair, s_list_either, s_list_left, s_list_right, s_list_thing, s_list_fault, s_list_worth, s_list_table, s_pair_num, s_pair_truth, s_pair_open, s_pair_list, s_pair_pair, s_pair_either, s_pair_left, s_pair_right, s_pair_thing, s_pair_fault, s_pair_worth, s_pair_table, s_either_num, s_either_truth, s_either_open, s_either_list, s_either_pair, s_either_either, s_either_left, s_either_right, s_either_thing, s_either_fault, s_either_worth, s_either_table, s_left_num, s_left_truth, s_left_open, s_left_list, s_left_pair, s_left_either, s_left_left, s_left_right, s_left_thing, s_left_fault, s_left_worth, s_left_table, s_right_num, s_right_truth, s_right_open, s_right_list, s_right_pair, s_right_either, s_right_left, s_right_right, s_right_thing, s_right_fault, s_right_worth, s_right_table, s_thing_num, s_thing_truth, s_thing_open, s_thing_list, s_thing_pair, s_thing_either, s_thing_left, s_thing_right, s_thing_thing, s_thing_fault, s_thing_worth, s_thing_table, s_fault_num, s_fault_truth, s_fault_open, s_fault_list, s_fault_pair, s_fault_either, s_fault_left, s_fault_right, s_fault_thing, s_fault_fault, s_fault_worth, s_fault_table, s_worth_num, s_worth_truth, s_worth_open, s_worth_list, s_worth_pair, s_worth_either, s_worth_left, s_worth_right, s_worth_thing, s_worth_fault, s_worth_worth, s_worth_table, s_table_num, s_table_truth, s_table_open, s_table_list, s_table_pair, s_table_either, s_table_left, s_table_right, s_table_thing, s_table_fault, s_table_worth, s_table_table]
    rw [hv4]
    refine seq_cut fun v5 hv5 => ?_
    try simp only [Kd.t, tsNx, tsSeq, tsBrk, tsCt, tsDrop, tsRet, tsRetN, tsIf, tsAsg, tgN, tgsNil, tgsCons, tgTup, tgSub, tsFor, tsWhile, tiSeq, tiRng1, tiRng2, tiZip, tb, tv, tc, tac, tan, ttup, tlst, tq, tand, tor, tnot, tife, tandV, torV, tnotV, tneg, tsl, tno, tpt, tcall, tbi, tml, tml0, tmj, tisi, tlRev, tlRng1, tdisp, tps, tlc_eq, tiEnumS, tixK, tiItems, tiVals, ttYes, bt1, btN, setsT, wipeT, endT, List.getElem?_cons_zero, List.getElem?_cons_succ, List.set_cons_zero, List.set_cons_succ]
    try simp only [ev_t0, ev_t1, ev_t2, ev_eqs, ev_eqi, ev_intb, ev_inti, ev_add, ev_sub, ev_lt, ev_gt, ev_sl1, ev_in2, ev_lent, ev_isn, Bool.or_false, Bool.or_true, Bool.false_or, Bool.true_or, eqG_f, eqG_t, kq, Bool.not_true, Bool.not_false, if_true, if_false, ite_true, ite_false, reduceIte, s_num_num, s_num_truth, s_num_open, s_num_list, s_num_pair, s_num_either, s_num_left, s_num_right, s_num_thing, s_num_fault, s_num_worth, s_num_table, s_truth_num, s_truth_truth, s_truth_open, s_truth_list, s_truth_pair, s_truth_either, s_truth_left, s_truth_right, s_truth_thing, s_truth_fault, s_truth_worth, s_truth_table, s_open_num, s_open_truth, s_open_open, s_open_list, s_open_pair, s_open_either, s_open_left, s_open_right, s_open_thing, s_open_fault, s_open_worth, s_open_table, s_list_num, s_list_truth, s_list_open, s_list_list, s_list_pair, s_list_either, s_list_left, s_list_right, s_list_thing, s_list_fault, s_list_worth, s_list_table, s_pair_num, s_pair_truth, s_pair_open, s_pair_list, s_pair_pair, s_pair_either, s_pair_left, s_pair_right, s_pair_thing, s_pair_fault, s_pair_worth, s_pair_table, s_either_num, s_either_truth, s_either_open, s_either_list, s_either_pair, s_either_either, s_either_left, s_either_right, s_either_thing, s_either_fault, s_either_worth, s_either_table, s_left_num, s_left_truth, s_left_open, s_left_list, s_left_pair, s_left_either, s_left_left, s_left_right, s_left_thing, s_left_fault, s_left_worth, s_left_table, s_right_num, s_right_truth, s_right_open, s_right_list, s_right_pair, s_right_either, s_right_left, s_right_right, s_right_thing, s_right_fault, s_right_worth, s_right_table, s_thing_num, s_thing_truth, s_thing_open, s_thing_list, s_thing_pair, s_thing_either, s_thing_left, s_thing_right, s_thing_thing, s_thing_fault, s_thing_worth, s_thing_table, s_fault_num, s_fault_truth, s_fault_open, s_fault_list, s_fault_pair, s_fault_either, s_fault_left, s_fault_right, s_fault_thing, s_fault_fault, s_fault_worth, s_fault_table, s_worth_num, s_worth_truth, s_worth_open, s_worth_list, s_worth_pair, s_worth_either, s_worth_left, s_worth_right, s_worth_thing, s_worth_fault, s_worth_worth, s_worth_table, s_table_num, s_table_truth, s_table_open, s_table_list, s_table_pair, s_table_either, s_table_left, s_table_right, s_table_thing, s_table_fault, s_table_worth, s_table_table]
    refine ⟨z4000 (by simp), z4000 (by simp), z4000 (by simp), z4000 (by simp), z4000 (by simp), z4000 (by simp), ?_⟩
    exact fin f1 (own_pair g.kg) (by simp)
  | eith a b =>
    try simp only [Kd.t, tsNx, tsSeq, tsBrk, tsCt, tsDrop, tsRet, tsRetN, tsIf, tsAsg, tgN, tgsNil, tgsCons, tgTup, tgSub, tsFor, tsWhile, tiSeq, tiRng1, tiRng2, tiZip, tb, tv, tc, tac, tan, ttup, tlst, tq, tand, tor, tnot, tife, tandV, torV, tnotV, tneg, tsl, tno, tpt, tcall, tbi, tml, tml0, tmj, tisi, tlRev, tlRng1, tdisp, tps, tlc_eq, tiEnumS, tixK, tiItems, tiVals, ttYes, bt1, btN, setsT, wipeT, endT, List.getElem?_cons_zero, List.getElem?_cons_succ, List.set_cons_zero, List.set_cons_succ]
    try simp only [s_either_fun, ev_t0, ev_t1, ev_t2, ev_eqs, ev_eqi, ev_intb, ev_inti, ev_add, ev_sub, ev_lt, ev_gt, ev_sl1, ev_in2, ev_lent, ev_isn, Bool.or_false, Bool.or_true, Bool.false_or, Bool.true_or, eqG_f, eqG_t, kq, Bool.not_true, Bool.not_false, if_true, if_false, ite_true, ite_false, reduceIte, s_num_num, s_num_truth, s_num_open, s_num_list, s_num_pair, s_num_either, s_num_left, s_num_right, s_num_thing, s_num_fault, s_num_worth, s_num_table, s_truth_num, s_truth_truth, s_truth_open, s_truth_list, s_truth_pair, s_truth_either, s_truth_left, s_truth_right, s_truth_thing, s_truth_fault, s_truth_worth, s_truth_table, s_open_num, s_open_truth, s_open_open, s_open_list, s_open_pair, s_open_either, s_open_left, s_open_right, s_open_thing, s_open_fault, s_open_worth, s_open_table, s_list_num, s_list_truth, s_list_open, s_list_list, s_list_pair, s_list_either, s_list_left, s_list_right, s_list_thing, s_list_fault, s_list_worth, s_list_table, s_pair_num, s_pair_truth, s_pair_open, s_pair_list, s_pair_pair, s_pair_either, s_pair_left, s_pair_right, s_pair_thing, s_pair_fault, s_pair_worth, s_pair_table, s_either_num, s_either_truth, s_either_open, s_either_list, s_either_pair, s_either_either, s_either_left, s_either_right, s_either_thing, s_either_fault, s_either_worth, s_either_table, s_left_num, s_left_truth, s_left_open, s_left_list, s_left_pair, s_left_either, s_left_left, s_left_right, s_left_thing, s_left_fault, s_left_worth, s_left_table, s_right_num, s_right_truth, s_right_open, s_right_list, s_right_pair, s_right_either, s_right_left, s_right_right, s_right_thing, s_right_fault, s_right_worth, s_right_table, s_thing_num, s_thing_truth, s_thing_open, s_thing_list, s_thing_pair, s_thing_either, s_thing_left, s_thing_right, s_thing_thing, s_thing_fault, s_thing_worth, s_thing_table, s_fault_num, s_fault_truth, s_fault_open, s_fault_list, s_fault_pair, s_fault_either, s_fault_left, s_fault_right, s_fault_thing, s_fault_fault, s_fault_worth, s_fault_table, s_worth_num, s_worth_truth, s_worth_open, s_worth_list, s_worth_pair, s_worth_either, s_worth_left, s_worth_right, s_worth_thing, s_worth_fault, s_worth_worth, s_worth_table, s_table_num, s_table_truth, s_table_open, s_table_list, s_table_pair, s_table_either, s_table_left, s_table_right, s_table_thing, s_table_fault, s_table_worth, s_table_table]
    rw [hv2]
    refine seq_cut fun v3 hv3 => ?_
    try simp only [Kd.t, tsNx, tsSeq, tsBrk, tsCt, tsDrop, tsRet, tsRetN, tsIf, tsAsg, tgN, tgsNil, tgsCons, tgTup, tgSub, tsFor, tsWhile, tiSeq, tiRng1, tiRng2, tiZip, tb, tv, tc, tac, tan, ttup, tlst, tq, tand, tor, tnot, tife, tandV, torV, tnotV, tneg, tsl, tno, tpt, tcall, tbi, tml, tml0, tmj, tisi, tlRev, tlRng1, tdisp, tps, tlc_eq, tiEnumS, tixK, tiItems, tiVals, ttYes, bt1, btN, setsT, wipeT, endT, List.getElem?_cons_zero, List.getElem?_cons_succ, List.set_cons_zero, List.set_cons_succ]
    try simp only [ev_t0, ev_t1, ev_t2, ev_eqs, ev_eqi, ev_intb, ev_inti, ev_add, ev_sub, ev_lt, ev_gt, ev_sl1, ev_in2, ev_lent, ev_isn, Bool.or_false, Bool.or_true, Bool.false_or, Bool.true_or, eqG_f, eqG_t, kq, Bool.not_true, Bool.not_false, if_true, if_false, ite_true, ite_false, reduceIte, s_num_num, s_num_truth, s_num_open, s_num_list, s_num_pair, s_num_either, s_num_left, s_num_right, s_num_thing, s_num_fault, s_num_worth, s_num_table, s_truth_num, s_truth_truth, s_truth_open, s_truth_list, s_truth_pair, s_truth_either, s_truth_left, s_truth_right, s_truth_thing, s_truth_fault, s_truth_worth, s_truth_table, s_open_num, s_open_truth, s_open_open, s_open_list, s_open_pair, s_open_either, s_open_left, s_open_right, s_open_thing, s_open_fault, s_open_worth, s_open_table, s_list_num, s_list_truth, s_list_open, s_list_list, s_list_pair, s_list_either, s_list_left, s_list_right, s_list_thing, s_list_fault, s_list_worth, s_list_table, s_pair_num, s_pair_truth, s_pair_open, s_pair_list, s_pair_pair, s_pair_either, s_pair_left, s_pair_right, s_pair_thing, s_pair_fault, s_pair_worth, s_pair_table, s_either_num, s_either_truth, s_either_open, s_either_list, s_either_pair, s_either_either, s_either_left, s_either_right, s_either_thing, s_either_fault, s_either_worth, s_either_table, s_left_num, s_left_truth, s_left_open, s_left_list, s_left_pair, s_left_either, s_left_left, s_left_right, s_left_thing, s_left_fault, s_left_worth, s_left_table, s_right_num, s_right_truth, s_right_open, s_right_list, s_right_pair, s_right_either, s_right_left, s_right_right, s_right_thing, s_right_fault, s_right_worth, s_right_table, s_thing_num, s_thing_truth, s_thing_open, s_thing_list, s_thing_pair, s_thing_either, s_thing_left, s_thing_right, s_thing_thing, s_thing_fault, s_thing_worth, s_thing_table, s_fault_num, s_fault_truth, s_fault_open, s_fault_list, s_fault_pair, s_fault_either, s_fault_left, s_fault_right, s_fault_thing, s_fault_fault, s_fault_worth, s_fault_table, s_worth_num, s_worth_truth, s_worth_open, s_worth_list, s_worth_pair, s_worth_either, s_worth_left, s_worth_right, s_worth_thing, s_worth_fault, s_worth_worth, s_worth_table, s_table_num, s_table_truth, s_table_open, s_table_list, s_table_pair, s_table_either, s_table_left, s_table_right, s_table_thing, s_table_fault, s_table_worth, s_table_table]
    rw [hv3]
    refine seq_cut fun v4 hv4 => ?_
    try simp only [Kd.t, tsNx, tsSeq, tsBrk, tsCt, tsDrop, tsRet, tsRetN, tsIf, tsAsg, tgN, tgsNil, tgsCons, tgTup, tgSub, tsFor, tsWhile, tiSeq, tiRng1, tiRng2, tiZip, tb, tv, tc, tac, tan, ttup, tlst, tq, tand, tor, tnot, tife, tandV, torV, tnotV, tneg, tsl, tno, tpt, tcall, tbi, tml, tml0, tmj, tisi, tlRev, tlRng1, tdisp, tps, tlc_eq, tiEnumS, tixK, tiItems, tiVals, ttYes, bt1, btN, setsT, wipeT, endT, List.getElem?_cons_zero, List.getElem?_cons_succ, List.set_cons_zero, List.set_cons_succ]
    try simp only [ev_t0, ev_t1, ev_t2, ev_eqs, ev_eqi, ev_intb, ev_inti, ev_add, ev_sub, ev_lt, ev_gt, ev_sl1, ev_in2, ev_lent, ev_isn, Bool.or_false, Bool.or_true, Bool.false_or, Bool.true_or, eqG_f, eqG_t, kq, Bool.not_true, Bool.not_false, if_true, if_false, ite_true, ite_false, reduceIte, s_num_num, s_num_truth, s_num_open, s_num_list, s_num_pair, s_num_either, s_num_left, s_num_right, s_num_thing, s_num_fault, s_num_worth, s_num_table, s_truth_num, s_truth_truth, s_truth_open, s_truth_list, s_truth_pair, s_truth_either, s_truth_left, s_truth_right, s_truth_thing, s_truth_fault, s_truth_worth, s_truth_table, s_open_num, s_open_truth, s_open_open, s_open_list, s_open_pair, s_open_either, s_open_left, s_open_right, s_open_thing, s_open_fault, s_open_worth, s_open_table, s_list_num, s_list_truth, s_list_open, s_list_list, s_list_pair, s_list_either, s_list_left, s_list_right, s_list_thing, s_list_fault, s_list_worth, s_list_table, s_pair_num, s_pair_truth, s_pair_open, s_pair_list, s_pair_pair, s_pair_either, s_pair_left, s_pair_right, s_pair_thing, s_pair_fault, s_pair_worth, s_pair_table, s_either_num, s_either_truth, s_either_open, s_either_list, s_either_pair, s_either_either, s_either_left, s_either_right, s_either_thing, s_either_fault, s_either_worth, s_either_table, s_left_num, s_left_truth, s_left_open, s_left_list, s_left_pair, s_left_either, s_left_left, s_left_right, s_left_thing, s_left_fault, s_left_worth, s_left_table, s_right_num, s_right_truth, s_right_open, s_right_list, s_right_pair, s_right_either, s_right_left, s_right_right, s_right_thing, s_right_fault, s_right_worth, s_right_table, s_thing_num, s_thing_truth, s_thing_open, s_thing_list, s_thing_pair, s_thing_either, s_thing_left, s_thing_right, s_thing_thing, s_thing_fault, s_thing_worth, s_thing_table, s_fault_num, s_fault_truth, s_fault_open, s_fault_list, s_fault_pair, s_fault_either, s_fault_left, s_fault_right, s_fault_thing, s_fault_fault, s_fault_worth, s_fault_table, s_worth_num, s_worth_truth, s_worth_open, s_worth_list, s_worth_pair, s_worth_either, s_worth_left, s_worth_right, s_worth_thing, s_worth_fault, s_worth_worth, s_worth_table, s_table_num, s_table_truth, s_table_open, s_table_list, s_table_pair, s_table_either, s_table_left, s_table_right, s_table_thing, s_table_fault, s_table_worth, s_table_table]
    rw [hv4]
    refine seq_cut fun v5 hv5 => ?_
    try simp only [Kd.t, tsNx, tsSeq, tsBrk, tsCt, tsDrop, tsRet, tsRetN, tsIf, tsAsg, tgN, tgsNil, tgsCons, tgTup, tgSub, tsFor, tsWhile, tiSeq, tiRng1, tiRng2, tiZip, tb, tv, tc, tac, tan, ttup, tlst, tq, tand, tor, tnot, tife, tandV, torV, tnotV, tneg, tsl, tno, tpt, tcall, tbi, tml, tml0, tmj, tisi, tlRev, tlRng1, tdisp, tps, tlc_eq, tiEnumS, tixK, tiItems, tiVals, ttYes, bt1, btN, setsT, wipeT, endT, List.getElem?_cons_zero, List.getElem?_cons_succ, List.set_cons_zero, List.set_cons_succ]
    try simp only [ev_t0, ev_t1, ev_t2, ev_eqs, ev_eqi, ev_intb, ev_inti, ev_add, ev_sub, ev_lt, ev_gt, ev_sl1, ev_in2, ev_lent, ev_isn, Bool.or_false, Bool.or_true, Bool.false_or, Bool.true_or, eqG_f, eqG_t, kq, Bool.not_true, Bool.not_false, if_true, if_false, ite_true, ite_false, reduceIte, s_num_num, s_num_truth, s_num_open, s_num_list, s_num_pair, s_num_either, s_num_left, s_num_right, s_num_thing, s_num_fault, s_num_worth, s_num_table, s_truth_num, s_truth_truth, s_truth_open, s_truth_list, s_truth_pair, s_truth_either, s_truth_left, s_truth_right, s_truth_thing, s_truth_fault, s_truth_worth, s_truth_table, s_open_num, s_open_truth, s_open_open, s_open_list, s_open_pair, s_open_either, s_open_left, s_open_right, s_open_thing, s_open_fault, s_open_worth, s_open_table, s_list_num, s_list_truth, s_list_open, s_list_list, s_list_pair, s_list_either, s_list_left, s_list_right, s_list_thing, s_list_fault, s_list_worth, s_list_table, s_pair_num, s_pair_truth, s_pair_open, s_pair_list, s_pair_pair, s_pair_either, s_pair_left, s_pair_right, s_pair_thing, s_pair_fault, s_pair_worth, s_pair_table, s_either_num, s_either_truth, s_either_open, s_either_list, s_either_pair, s_either_either, s_either_left, s_either_right, s_either_thing, s_either_fault, s_either_worth, s_either_table, s_left_num, s_left_truth, s_left_open, s_left_list, s_left_pair, s_left_either, s_left_left, s_left_right, s_left_thing, s_left_fault, s_left_worth, s_left_table, s_right_num, s_right_truth, s_right_open, s_right_list, s_right_pair, s_right_either, s_right_left, s_right_right, s_right_thing, s_right_fault, s_right_worth, s_right_table, s_thing_num, s_thing_truth, s_thing_open, s_thing_list, s_thing_pair, s_thing_either, s_thing_left, s_thing_right, s_thing_thing, s_thing_fault, s_thing_worth, s_thing_table, s_fault_num, s_fault_truth, s_fault_open, s_fault_list, s_fault_pair, s_fault_either, s_fault_left, s_fault_right, s_fault_thing, s_fault_fault, s_fault_worth, s_fault_table, s_worth_num, s_worth_truth, s_worth_open, s_worth_list, s_worth_pair, s_worth_either, s_worth_left, s_worth_right, s_worth_thing, s_worth_fault, s_worth_worth, s_worth_table, s_table_num, s_table_truth, s_table_open, s_table_list, s_table_pair, s_table_either, s_table_left, s_table_right, s_table_thing, s_table_fault, s_table_worth, s_table_table]
    rw [hv5]
    refine seq_cut fun v6 hv6 => ?_
    try simp only [Kd.t, tsNx, tsSeq, tsBrk, tsCt, tsDrop, tsRet, tsRetN, tsIf, tsAsg, tgN, tgsNil, tgsCons, tgTup, tgSub, tsFor, tsWhile, tiSeq, tiRng1, tiRng2, tiZip, tb, tv, tc, tac, tan, ttup, tlst, tq, tand, tor, tnot, tife, tandV, torV, tnotV, tneg, tsl, tno, tpt, tcall, tbi, tml, tml0, tmj, tisi, tlRev, tlRng1, tdisp, tps, tlc_eq, tiEnumS, tixK, tiItems, tiVals, ttYes, bt1, btN, setsT, wipeT, endT, List.getElem?_cons_zero, List.getElem?_cons_succ, List.set_cons_zero, List.set_cons_succ]
    try simp only [ev_t0, ev_t1, ev_t2, ev_eqs, ev_eqi, ev_intb, ev_inti, ev_add, ev_sub, ev_lt, ev_gt, ev_sl1, ev_in2, ev_lent, ev_isn, Bool.or_false, Bool.or_true, Bool.false_or, Bool.true_or, eqG_f, eqG_t, kq, Bool.not_true, Bool.not_false, if_true, if_false, ite_true, ite_false, reduceIte, s_num_num, s_num_truth, s_num_open, s_num_list, s_num_pair, s_num_either, s_num_left, s_num_right, s_num_thing, s_num_fault, s_num_worth, s_num_table, s_truth_num, s_truth_truth, s_truth_open, s_truth_list, s_truth_pair, s_truth_either, s_truth_left, s_truth_right, s_truth_thing, s_truth_fault, s_truth_worth, s_truth_table, s_open_num, s_open_truth, s_open_open, s_open_list, s_open_pair, s_open_either, s_open_left, s_open_right, s_open_thing, s_open_fault, s_open_worth, s_open_table, s_list_num, s_list_truth, s_list_open, s_list_list, s_list_pair, s_list_either, s_list_left, s_list_right, s_list_thing, s_list_fault, s_list_worth, s_list_table, s_pair_num, s_pair_truth, s_pair_open, s_pair_list, s_pair_pair, s_pair_either, s_pair_left, s_pair_right, s_pair_thing, s_pair_fault, s_pair_worth, s_pair_table, s_either_num, s_either_truth, s_either_open, s_either_list, s_either_pair, s_either_either, s_either_left, s_either_right, s_either_thing, s_either_fault, s_either_worth, s_either_table, s_left_num, s_left_truth, s_left_open, s_left_list, s_left_pair, s_left_either, s_left_left, s_left_right, s_left_thing, s_left_fault, s_left_worth, s_left_table, s_right_num, s_right_truth, s_right_open, s_right_list, s_right_pair, s_right_either, s_right_left, s_right_right, s_right_thing, s_right_fault, s_right_worth, s_right_table, s_thing_num, s_thing_truth, s_thing_open, s_thing_list, s_thing_pair, s_thing_either, s_thing_left, s_thing_right, s_thing_thing, s_thing_fault, s_thing_worth, s_thing_table, s_fault_num, s_fault_truth, s_fault_open, s_fault_list, s_fault_pair, s_fault_either, s_fault_left, s_fault_right, s_fault_thing, s_fault_fault, s_fault_worth, s_fault_table, s_worth_num, s_worth_truth, s_worth_open, s_worth_list, s_worth_pair, s_worth_either, s_worth_left, s_worth_right, s_worth_thing, s_worth_fault, s_worth_worth, s_worth_table, s_table_num, s_table_truth, s_table_open, s_table_list, s_table_pair, s_table_either, s_table_left, s_table_right, s_table_thing, s_table_fault, s_table_worth, s_table_table]
    refine ⟨z4000 (by simp), z4000 (by simp), z4000 (by simp), z4000 (by simp), z4000 (by simp), z4000 (by simp), z4000 (by simp), ?_⟩
    exact fin f1 (own_eith g.kg) (by simp)
  | tru =>
    try simp only [Kd.t, tsNx, tsSeq, tsBrk, tsCt, tsDrop, tsRet, tsRetN, tsIf, tsAsg, tgN, tgsNil, tgsCons, tgTup, tgSub, tsFor, tsWhile, tiSeq, tiRng1, tiRng2, tiZip, tb, tv, tc, tac, tan, ttup, tlst, tq, tand, tor, tnot, tife, tandV, torV, tnotV, tneg, tsl, tno, tpt, tcall, tbi, tml, tml0, tmj, tisi, tlRev, tlRng1, tdisp, tps, tlc_eq, tiEnumS, tixK, tiItems, tiVals, ttYes, bt1, btN, setsT, wipeT, endT, List.getElem?_cons_zero, List.getElem?_cons_succ, List.set_cons_zero, List.set_cons_succ]
    try simp only [s_truth_fun, ev_t0, ev_t1, ev_t2, ev_eqs, ev_eqi, ev_intb, ev_inti, ev_add, ev_sub, ev_lt, ev_gt, ev_sl1, ev_in2, ev_lent, ev_isn, Bool.or_false, Bool.or_true, Bool.false_or, Bool.true_or, eqG_f, eqG_t, kq, Bool.not_true, Bool.not_false, if_true, if_false, ite_true, ite_false, reduceIte, s_num_num, s_num_truth, s_num_open, s_num_list, s_num_pair, s_num_either, s_num_left, s_num_right, s_num_thing, s_num_fault, s_num_worth, s_num_table, s_truth_num, s_truth_truth, s_truth_open, s_truth_list, s_truth_pair, s_truth_either, s_truth_left, s_truth_right, s_truth_thing, s_truth_fault, s_truth_worth, s_truth_table, s_open_num, s_open_truth, s_open_open, s_open_list, s_open_pair, s_open_either, s_open_left, s_open_right, s_open_thing, s_open_fault, s_open_worth, s_open_table, s_list_num, s_list_truth, s_list_open, s_list_list, s_list_pair, s_list_either, s_list_left, s_list_right, s_list_thing, s_list_fault, s_list_worth, s_list_table, s_pair_num, s_pair_truth, s_pair_open, s_pair_list, s_pair_pair, s_pair_either, s_pair_left, s_pair_right, s_pair_thing, s_pair_fault, s_pair_worth, s_pair_table, s_either_num, s_either_truth, s_either_open, s_either_list, s_either_pair, s_either_either, s_either_left, s_either_right, s_either_thing, s_either_fault, s_either_worth, s_either_table, s_left_num, s_left_truth, s_left_open, s_left_list, s_left_pair, s_left_either, s_left_left, s_left_right, s_left_thing, s_left_fault, s_left_worth, s_left_table, s_right_num, s_right_truth, s_right_open, s_right_list, s_right_pair, s_right_either, s_right_left, s_right_right, s_right_thing, s_right_fault, s_right_worth, s_right_table, s_thing_num, s_thing_truth, s_thing_open, s_thing_list, s_thing_pair, s_thing_either, s_thing_left, s_thing_right, s_thing_thing, s_thing_fault, s_thing_worth, s_thing_table, s_fault_num, s_fault_truth, s_fault_open, s_fault_list, s_fault_pair, s_fault_either, s_fault_left, s_fault_right, s_fault_thing, s_fault_fault, s_fault_worth, s_fault_table, s_worth_num, s_worth_truth, s_worth_open, s_worth_list, s_worth_pair, s_worth_either, s_worth_left, s_worth_right, s_worth_thing, s_worth_fault, s_worth_worth, s_worth_table, s_table_num, s_table_truth, s_table_open, s_table_list, s_table_pair, s_table_either, s_table_left, s_table_right, s_table_thing, s_table_fault, s_table_worth, s_table_table]
    rw [hv2]
    refine seq_cut fun v3 hv3 => ?_
    try simp only [Kd.t, tsNx, tsSeq, tsBrk, tsCt, tsDrop, tsRet, tsRetN, tsIf, tsAsg, tgN, tgsNil, tgsCons, tgTup, tgSub, tsFor, tsWhile, tiSeq, tiRng1, tiRng2, tiZip, tb, tv, tc, tac, tan, ttup, tlst, tq, tand, tor, tnot, tife, tandV, torV, tnotV, tneg, tsl, tno, tpt, tcall, tbi, tml, tml0, tmj, tisi, tlRev, tlRng1, tdisp, tps, tlc_eq, tiEnumS, tixK, tiItems, tiVals, ttYes, bt1, btN, setsT, wipeT, endT, List.getElem?_cons_zero, List.getElem?_cons_succ, List.set_cons_zero, List.set_cons_succ]
    try simp only [ev_t0, ev_t1, ev_t2, ev_eqs, ev_eqi, ev_intb, ev_inti, ev_add, ev_sub, ev_lt, ev_gt, ev_sl1, ev_in2, ev_lent, ev_isn, Bool.or_false, Bool.or_true, Bool.false_or, Bool.true_or, eqG_f, eqG_t, kq, Bool.not_true, Bool.not_false, if_true, if_false, ite_true, ite_false, reduceIte, s_num_num, s_num_truth, s_num_open, s_num_list, s_num_pair, s_num_either, s_num_left, s_num_right, s_num_thing, s_num_fault, s_num_worth, s_num_table, s_truth_num, s_truth_truth, s_truth_open, s_truth_list, s_truth_pair, s_truth_either, s_truth_left, s_truth_right, s_truth_thing, s_truth_fault, s_truth_worth, s_truth_table, s_open_num, s_open_truth, s_open_open, s_open_list, s_open_pair, s_open_either, s_open_left, s_open_right, s_open_thing, s_open_fault, s_open_worth, s_open_table, s_list_num, s_list_truth, s_list_open, s_list_list, s_list_pair, s_list_either, s_list_left, s_list_right, s_list_thing, s_list_fault, s_list_worth, s_list_table, s_pair_num, s_pair_truth, s_pair_open, s_pair_list, s_pair_pair, s_pair_either, s_pair_left, s_pair_right, s_pair_thing, s_pair_fault, s_pair_worth, s_pair_table, s_either_num, s_either_truth, s_either_open, s_either_list, s_either_pair, s_either_either, s_either_left, s_either_right, s_either_thing, s_either_fault, s_either_worth, s_either_table, s_left_num, s_left_truth, s_left_open, s_left_list, s_left_pair, s_left_either, s_left_left, s_left_right, s_left_thing, s_left_fault, s_left_worth, s_left_table, s_right_num, s_right_truth, s_right_open, s_right_list, s_right_pair, s_right_either, s_right_left, s_right_right, s_right_thing, s_right_fault, s_right_worth, s_right_table, s_thing_num, s_thing_truth, s_thing_open, s_thing_list, s_thing_pair, s_thing_either, s_thing_left, s_thing_right, s_thing_thing, s_thing_fault, s_thing_worth, s_thing_table, s_fault_num, s_fault_truth, s_fault_open, s_fault_list, s_fault_pair, s_fault_either, s_fault_left, s_fault_right, s_fault_thing, s_fault_fault, s_fault_worth, s_fault_table, s_worth_num, s_worth_truth, s_worth_open, s_worth_list, s_worth_pair, s_worth_either, s_worth_left, s_worth_right, s_worth_thing, s_worth_fault, s_worth_worth, s_worth_table, s_table_num, s_table_truth, s_table_open, s_table_list, s_table_pair, s_table_either, s_table_left, s_table_right, s_table_thing, s_table_fault, s_table_worth, s_table_table]
    rw [hv3]
    refine seq_cut fun v4 hv4 => ?_
    try simp only [Kd.t, tsNx, tsSeq, tsBrk, tsCt, tsDrop, tsRet, tsRetN, tsIf, tsAsg, tgN, tgsNil, tgsCons, tgTup, tgSub, tsFor, tsWhile, tiSeq, tiRng1, tiRng2, tiZip, tb, tv, tc, tac, tan, ttup, tlst, tq, tand, tor, tnot, tife, tandV, torV, tnotV, tneg, tsl, tno, tpt, tcall, tbi, tml, tml0, tmj, tisi, tlRev, tlRng1, tdisp, tps, tlc_eq, tiEnumS, tixK, tiItems, tiVals, ttYes, bt1, btN, setsT, wipeT, endT, List.getElem?_cons_zero, List.getElem?_cons_succ, List.set_cons_zero, List.set_cons_succ]
    try simp only [ev_t0, ev_t1, ev_t2, ev_eqs, ev_eqi, ev_intb, ev_inti, ev_add, ev_sub, ev_lt, ev_gt, ev_sl1, ev_in2, ev_lent, ev_isn, Bool.or_false, Bool.or_true, Bool.false_or, Bool.true_or, eqG_f, eqG_t, kq, Bool.not_true, Bool.not_false, if_true, if_false, ite_true, ite_false, reduceIte, s_num_num, s_num_truth, s_num_open, s_num_list, s_num_pair, s_num_either, s_num_left, s_num_right, s_num_thing, s_num_fault, s_num_worth, s_num_table, s_truth_num, s_truth_truth, s_truth_open, s_truth_list, s_truth_pair, s_truth_either, s_truth_left, s_truth_right, s_truth_thing, s_truth_fault, s_truth_worth, s_truth_table, s_open_num, s_open_truth, s_open_open, s_open_list, s_open_pair, s_open_either, s_open_left, s_open_right, s_open_thing, s_open_fault, s_open_worth, s_open_table, s_list_num, s_list_truth, s_list_open, s_list_list, s_list_pair, s_list_either, s_list_left, s_list_right, s_list_thing, s_list_fault, s_list_worth, s_list_table, s_pair_num, s_pair_truth, s_pair_open, s_pair_list, s_pair_pair, s_pair_either, s_pair_left, s_pair_right, s_pair_thing, s_pair_fault, s_pair_worth, s_pair_table, s_either_num, s_either_truth, s_either_open, s_either_list, s_either_pair, s_either_either, s_either_left, s_either_right, s_either_thing, s_either_fault, s_either_worth, s_either_table, s_left_num, s_left_truth, s_left_open, s_left_list, s_left_pair, s_left_either, s_left_left, s_left_right, s_left_thing, s_left_fault, s_left_worth, s_left_table, s_right_num, s_right_truth, s_right_open, s_right_list, s_right_pair, s_right_either, s_right_left, s_right_right, s_right_thing, s_right_fault, s_right_worth, s_right_table, s_thing_num, s_thing_truth, s_thing_open, s_thing_list, s_thing_pair, s_thing_either, s_thing_left, s_thing_right, s_thing_thing, s_thing_fault, s_thing_worth, s_thing_table, s_fault_num, s_fault_truth, s_fault_open, s_fault_list, s_fault_pair, s_fault_either, s_fault_left, s_fault_right, s_fault_thing, s_fault_fault, s_fault_worth, s_fault_table, s_worth_num, s_worth_truth, s_worth_open, s_worth_list, s_worth_pair, s_worth_either, s_worth_left, s_worth_right, s_worth_thing, s_worth_fault, s_worth_worth, s_worth_table, s_table_num, s_table_truth, s_table_open, s_table_list, s_table_pair, s_table_either, s_table_left, s_table_right, s_table_thing, s_table_fault, s_table_worth, s_table_table]
    refine ⟨z4000 (by simp), z4000 (by simp), z4000 (by simp), rfl, D, C, 2, rfl, g1.dk, by decide, by decide, fun n S2 n0 n1 f2 => ?_⟩
    have f12 := f1.trans f2
    try simp only [ev_t0, ev_t1, ev_t2, ev_eqs, ev_eqi, ev_intb, ev_inti, ev_add, ev_sub, ev_lt, ev_gt, ev_sl1, ev_in2, ev_lent, ev_isn, Bool.or_false, Bool.or_true, Bool.false_or, Bool.true_or, eqG_f, eqG_t, kq, Bool.not_true, Bool.not_false, if_true, if_false, ite_true, ite_false, reduceIte, s_num_num, s_num_truth, s_num_open, s_num_list, s_num_pair, s_num_either, s_num_left, s_num_right, s_num_thing, s_num_fault, s_num_worth, s_num_table, s_truth_num, s_truth_truth, s_truth_open, s_truth_list, s_truth_pair, s_truth_either, s_truth_left, s_truth_right, s_truth_thing, s_truth_fault, s_truth_worth, s_truth_table, s_open_num, s_open_truth, s_open_open, s_open_list, s_open_pair, s_open_either, s_open_left, s_open_right, s_open_thing, s_open_fault, s_open_worth, s_open_table, s_list_num, s_list_truth, s_list_open, s_list_list, s_list_pair, s_list_either, s_list_left, s_list_right, s_list_thing, s_list_fault, s_list_worth, s_list_table, s_pair_num, s_pair_truth, s_pair_open, s_pair_list, s_pair_pair, s_pair_either, s_pair_left, s_pair_right, s_pair_thing, s_pair_fault, s_pair_worth, s_pair_table, s_either_num, s_either_truth, s_either_open, s_either_list, s_either_pair, s_either_either, s_either_left, s_either_right, s_either_thing, s_either_fault, s_either_worth, s_either_table, s_left_num, s_left_truth, s_left_open, s_left_list, s_left_pair, s_left_either, s_left_left, s_left_right, s_left_thing, s_left_fault, s_left_worth, s_left_table, s_right_num, s_right_truth, s_right_open, s_right_list, s_right_pair, s_right_either, s_right_left, s_right_right, s_right_thing, s_right_fault, s_right_worth, s_right_table, s_thing_num, s_thing_truth, s_thing_open, s_thing_list, s_thing_pair, s_thing_either, s_thing_left, s_thing_right, s_thing_thing, s_thing_fault, s_thing_worth, s_thing_table, s_fault_num, s_fault_truth, s_fault_open, s_fault_list, s_fault_pair, s_fault_either, s_fault_left, s_fault_right, s_fault_thing, s_fault_fault, s_fault_worth, s_fault_table, s_worth_num, s_worth_truth, s_worth_open, s_worth_list, s_worth_pair, s_worth_either, s_worth_left, s_worth_right, s_worth_thing, s_worth_fault, s_worth_worth, s_worth_table, s_table_num, s_table_truth, s_table_open, s_table_list, s_table_pair, s_table_either, s_table_left, s_table_right, s_table_thing, s_table_fault, s_table_worth, s_table_table]
    refine ⟨z4000 (by simp), z4000 (by simp), st_lst (by simp) (nw fun F S3 hF hFF x3 => ?_)⟩
    have f3 := f12.ex x3
    have g3 := g.fr f3
    refine st_known g3.kn g3.kks g3.few fun ms M S4 hms hml hM hMM x4 => ?_
    simp only [hMM]
    have g4 := g3.fr ((Fr.refl g3.dk).ex x4)
    have hMF : M ≠ F := fun z => by rw [z, hFF] at hM; cases hM
    have hFS : S F = none := f12.none g.dk hF
    obtain ⟨FD, FC⟩ := g.dk.neS hFS
    have Ftl : F ≠ tl := fun z => by obtain ⟨_, _, _, _, _, _, _, _, _, _, _, _, _, h, _⟩ := g.tl; rw [← z, hFS] at h; cases h
    refine ⟨fun i ρ S' => i ≤ ms.length ∧ (∃ k8 k9, ρ = [some (.adr D), some (.adr tl), some (.adr kn), some (T.tup [T.str (Str.ofString "truth")]), some (.str x), none, some (T.tup [T.str (Str.ofString "hole"), T.tup [T.str (Str.ofString "num")], T.tup []]), some (.adr F), k8, k9]) ∧ Kp (fun a => a = F) S4 S' ∧ ∃ b ss, S' F = some (.lst (.tup [.str "truth", .bl b] :: ss)) ∧ ss.length ≤ 1 + i ∧ ∀ s ∈ ss, Shp (fun k ns => Kg d k ∧ Knd d ns ∧ ns.length ≤ 1) 1 s, ⟨Nat.zero_le _, ⟨_, _, rfl⟩, .refl, _, [_], x4 _ _ hFF, Nat.le_refl _, fun s hs => ?_⟩, ?_⟩
    · rw [List.mem_singleton.mp hs]; exact shp_less
    rintro i ρ S' ⟨hi, ⟨k8, k9, rfl⟩, kp, bb, ss, hss, hsl, hsp⟩
    refine ⟨kp _ _ hMF hMM, ?_⟩
    rw [List.getElem?_map, List.getElem?_map]
    have f5 : Fr D C S S' := by
      refine ⟨?_, fun a o h1 h2 h => kp a o (nn hFS h) (x4 _ _ (f3.kp a o h1 h2 h))⟩
      obtain ⟨ne, a1, a2, a3, a4, a5, a6⟩ := g4.dk
      exact ⟨ne, a1, a2, a3, kp _ _ (Ne.symm FD) a4, kp _ _ (Ne.symm FC) a5, a6⟩
    have g5 := g.fr f5
    cases hx' : ms[i]? with
    | none =>
      have := List.getElem?_eq_none_iff.mp hx'
      simp only [Option.map_none]
      try simp only [tsNx, tsSeq, tsBrk, tsCt, tsDrop, tsRet, tsRetN, tsIf, tsAsg, tgN, tgsNil, tgsCons, tgTup, tgSub, tsFor, tsWhile, tiSeq, tiRng1, tiRng2, tiZip, tb, tv, tc, tac, tan, ttup, tlst, tq, tand, tor, tnot, tife, tandV, torV, tnotV, tneg, tsl, tno, tpt, tcall, tbi, tml, tml0, tmj, tisi, tlRev, tlRng1, tdisp, tps, tlc_eq, tiEnumS, tixK, tiItems, tiVals, ttYes, bt1, btN, setsT, wipeT, endT, List.getElem?_cons_zero, List.getElem?_cons_succ, List.set_cons_zero, List.set_cons_succ]
      exact q F _ ss S' (own_tru hsp).1 (own_tru hsp).2.1 hsp (by have := g.few; omega) f5 hFS hss
    | some p =>
      have hlt := (List.getElem?_eq_some_iff.mp hx').1
      obtain ⟨p1, p2⟩ := hms p (List.mem_of_getElem? hx')
      simp only [Option.map_some]
      try simp only [kK, kT, tsNx, tsSeq, tsBrk, tsCt, tsDrop, tsRet, tsRetN, tsIf, tsAsg, tgN, tgsNil, tgsCons, tgTup, tgSub, tsFor, tsWhile, tiSeq, tiRng1, tiRng2, tiZip, tb, tv, tc, tac, tan, ttup, tlst, tq, tand, tor, tnot, tife, tandV, torV, tnotV, tneg, tsl, tno, tpt, tcall, tbi, tml, tml0, tmj, tisi, tlRev, tlRng1, tdisp, tps, tlc_eq, tiEnumS, tixK, tiItems, tiVals, ttYes, bt1, btN, setsT, wipeT, endT, List.getElem?_cons_zero, List.getElem?_cons_succ, List.set_cons_zero, List.set_cons_succ]
      refine ⟨rfl, ?_⟩
      have skip : ∀ S5, Kp (fun a => a = F) S4 S5 → (∃ b ss, S5 F = some (.lst (.tup [.str "truth", .bl b] :: ss)) ∧ ss.length ≤ 1 + (i + 1) ∧ ∀ s ∈ ss, Shp (fun k ns => Kg d k ∧ Knd d ns ∧ ns.length ≤ 1) 1 s) → (i + 1 ≤ ms.length ∧ (∃ k8 k9, [some (.adr D), some (.adr tl), some (.adr kn), some (T.tup [T.str (Str.ofString "truth")]), some (.str x), none, some (T.tup [T.str (Str.ofString "hole"), T.tup [T.str (Str.ofString "num")], T.tup []]), some (.adr F), some (.str p.1), some p.2.t] = [some (.adr D), some (.adr tl), some (.adr kn), some (T.tup [T.str (Str.ofString "truth")]), some (.str x), none, some (T.tup [T.str (Str.ofString "hole"), T.tup [T.str (Str.ofString "num")], T.tup []]), some (.adr F), k8, k9]) ∧ Kp (fun a => a = F) S4 S5 ∧ ∃ b ss, S5 F = some (.lst (.tup [.str "truth", .bl b] :: ss)) ∧ ss.length ≤ 1 + (i + 1) ∧ ∀ s ∈ ss, Shp (fun k ns => Kg d k ∧ Knd d ns ∧ ns.length ≤ 1) 1 s) := fun S5 k5 h5 => ⟨hlt, ⟨_, _, rfl⟩, k5, h5⟩
      have same := skip S' kp ⟨bb, ss, hss, by omega, hsp⟩
      cases hk : p.2 with
      | num => rw [hk] at same; try simp only [Kd.t, ev_t0, ev_t1, ev_t2, ev_eqs, ev_eqi, ev_intb, ev_inti, ev_add, ev_sub, ev_lt, ev_gt, ev_sl1, ev_in2, ev_lent, ev_isn, Bool.or_false, Bool.or_true, Bool.false_or, Bool.true_or, eqG_f, eqG_t, kq, Bool.not_true, Bool.not_false, if_true, if_false, ite_true, ite_false, reduceIte, s_num_num, s_num_truth, s_num_open, s_num_list, s_num_pair, s_num_either, s_num_left, s_num_right, s_num_thing, s_num_fault, s_num_worth, s_num_table, s_truth_num, s_truth_truth, s_truth_open, s_truth_list, s_truth_pair, s_truth_either, s_truth_left, s_truth_right, s_truth_thing, s_truth_fault, s_truth_worth, s_truth_table, s_open_num, s_open_truth, s_open_open, s_open_list, s_open_pair, s_open_either, s_open_left, s_open_right, s_open_thing, s_open_fault, s_open_worth, s_open_table, s_list_num, s_list_truth, s_list_open, s_list_list, s_list_pair, s_list_either, s_list_left, s_list_right, s_list_thing, s_list_fault, s_list_worth, s_list_table, s_pair_num, s_pair_truth, s_pair_open, s_pair_list, s_pair_pair, s_pair_either, s_pair_left, s_pair_right, s_pair_thing, s_pair_fault, s_pair_worth, s_pair_table, s_either_num, s_either_truth, s_either_open, s_either_list, s_either_pair, s_either_either, s_either_left, s_either_right, s_either_thing, s_either_fault, s_either_worth, s_either_table, s_left_num, s_left_truth, s_left_open, s_left_list, s_left_pair, s_left_either, s_left_left, s_left_right, s_left_thing, s_left_fault, s_left_worth, s_left_table, s_right_num, s_right_truth, s_right_open, s_right_list, s_right_pair, s_right_either, s_right_left, s_right_right, s_right_thing, s_right_fault, s_right_worth, s_right_table, s_thing_num, s_thing_truth, s_thing_open, s_thing_list, s_thing_pair, s_thing_either, s_thing_left, s_thing_right, s_thing_thing, s_thing_fault, s_thing_worth, s_thing_table, s_fault_num, s_fault_truth, s_fault_open, s_fault_list, s_fault_pair, s_fault_either, s_fault_left, s_fault_right, s_fault_thing, s_fault_fault, s_fault_worth, s_fault_table, s_worth_num, s_worth_truth, s_worth_open, s_worth_list, s_worth_pair, s_worth_either, s_worth_left, s_worth_right, s_worth_thing, s_worth_fault, s_worth_worth, s_worth_table, s_table_num, s_table_truth, s_table_open, s_table_list, s_table_pair, s_table_either, s_table_left, s_table_right, s_table_thing, s_table_fault, s_table_worth, s_table_table]; exact same
      | tru => rw [hk] at same; try simp only [Kd.t, ev_t0, ev_t1, ev_t2, ev_eqs, ev_eqi, ev_intb, ev_inti, ev_add, ev_sub, ev_lt, ev_gt, ev_sl1, ev_in2, ev_lent, ev_isn, Bool.or_false, Bool.or_true, Bool.false_or, Bool.true_or, eqG_f, eqG_t, kq, Bool.not_true, Bool.not_false, if_true, if_false, ite_true, ite_false, reduceIte, s_num_num, s_num_truth, s_num_open, s_num_list, s_num_pair, s_num_either, s_num_left, s_num_right, s_num_thing, s_num_fault, s_num_worth, s_num_table, s_truth_num, s_truth_truth, s_truth_open, s_truth_list, s_truth_pair, s_truth_either, s_truth_left, s_truth_right, s_truth_thing, s_truth_fault, s_truth_worth, s_truth_table, s_open_num, s_open_truth, s_open_open, s_open_list, s_open_pair, s_open_either, s_open_left, s_open_right, s_open_thing, s_open_fault, s_open_worth, s_open_table, s_list_num, s_list_truth, s_list_open, s_list_list, s_list_pair, s_list_either, s_list_left, s_list_right, s_list_thing, s_list_fault, s_list_worth, s_list_table, s_pair_num, s_pair_truth, s_pair_open, s_pair_list, s_pair_pair, s_pair_either, s_pair_left, s_pair_right, s_pair_thing, s_pair_fault, s_pair_worth, s_pair_table, s_either_num, s_either_truth, s_either_open, s_either_list, s_either_pair, s_either_either, s_either_left, s_either_right, s_either_thing, s_either_fault, s_either_worth, s_either_table, s_left_num, s_left_truth, s_left_open, s_left_list, s_left_pair, s_left_either, s_left_left, s_left_right, s_left_thing, s_left_fault, s_left_worth, s_left_table, s_right_num, s_right_truth, s_right_open, s_right_list, s_right_pair, s_right_either, s_right_left, s_right_right, s_right_thing, s_right_fault, s_right_worth, s_right_table, s_thing_num, s_thing_truth, s_thing_open, s_thing_list, s_thing_pair, s_thing_either, s_thing_left, s_thing_right, s_thing_thing, s_thing_fault, s_thing_worth, s_thing_table, s_fault_num, s_fault_truth, s_fault_open, s_fault_list, s_fault_pair, s_fault_either, s_fault_left, s_fault_right, s_fault_thing, s_fault_fault, s_fault_worth, s_fault_table, s_worth_num, s_worth_truth, s_worth_open, s_worth_list, s_worth_pair, s_worth_either, s_worth_left, s_worth_right, s_worth_thing, s_worth_fault, s_worth_worth, s_worth_table, s_table_num, s_table_truth, s_table_open, s_table_list, s_table_pair, s_table_either, s_table_left, s_table_right, s_table_thing, s_table_fault, s_table_worth, s_table_table]; exact same
      | lst k => rw [hk] at same; try simp only [Kd.t, ev_t0, ev_t1, ev_t2, ev_eqs, ev_eqi, ev_intb, ev_inti, ev_add, ev_sub, ev_lt, ev_gt, ev_sl1, ev_in2, ev_lent, ev_isn, Bool.or_false, Bool.or_true, Bool.false_or, Bool.true_or, eqG_f, eqG_t, kq, Bool.not_true, Bool.not_false, if_true, if_false, ite_true, ite_false, reduceIte, s_num_num, s_num_truth, s_num_open, s_num_list, s_num_pair, s_num_either, s_num_left, s_num_right, s_num_thing, s_num_fault, s_num_worth, s_num_table, s_truth_num, s_truth_truth, s_truth_open, s_truth_list, s_truth_pair, s_truth_either, s_truth_left, s_truth_right, s_truth_thing, s_truth_fault, s_truth_worth, s_truth_table, s_open_num, s_open_truth, s_open_open, s_open_list, s_open_pair, s_open_either, s_open_left, s_open_right, s_open_thing, s_open_fault, s_open_worth, s_open_table, s_list_num, s_list_truth, s_list_open, s_list_list, s_list_pair, s_list_either, s_list_left, s_list_right, s_list_thing, s_list_fault, s_list_worth, s_list_table, s_pair_num, s_pair_truth, s_pair_open, s_pair_list, s_pair_pair, s_pair_either, s_pair_left, s_pair_right, s_pair_thing, s_pair_fault, s_pair_worth, s_pair_table, s_either_num, s_either_truth, s_either_open, s_either_list, s_either_pair, s_either_either, s_either_left, s_either_right, s_either_thing, s_either_fault, s_either_worth, s_either_table, s_left_num, s_left_truth, s_left_open, s_left_list, s_left_pair, s_left_either, s_left_left, s_left_right, s_left_thing, s_left_fault, s_left_worth, s_left_table, s_right_num, s_right_truth, s_right_open, s_right_list, s_right_pair, s_right_either, s_right_left, s_right_right, s_right_thing, s_right_fault, s_right_worth, s_right_table, s_thing_num, s_thing_truth, s_thing_open, s_thing_list, s_thing_pair, s_thing_either, s_thing_left, s_thing_right, s_thing_thing, s_thing_fault, s_thing_worth, s_thing_table, s_fault_num, s_fault_truth, s_fault_open, s_fault_list, s_fault_pair, s_fault_either, s_fault_left, s_fault_right, s_fault_thing, s_fault_fault, s_fault_worth, s_fault_table, s_worth_num, s_worth_truth, s_worth_open, s_worth_list, s_worth_pair, s_worth_either, s_worth_left, s_worth_right, s_worth_thing, s_worth_fault, s_worth_worth, s_worth_table, s_table_num, s_table_truth, s_table_open, s_table_list, s_table_pair, s_table_either, s_table_left, s_table_right, s_table_thing, s_table_fault, s_table_worth, s_table_table]; exact same
      | pair a b => rw [hk] at same; try simp only [Kd.t, ev_t0, ev_t1, ev_t2, ev_eqs, ev_eqi, ev_intb, ev_inti, ev_add, ev_sub, ev_lt, ev_gt, ev_sl1, ev_in2, ev_lent, ev_isn, Bool.or_false, Bool.or_true, Bool.false_or, Bool.true_or, eqG_f, eqG_t, kq, Bool.not_true, Bool.not_false, if_true, if_false, ite_true, ite_false, reduceIte, s_num_num, s_num_truth, s_num_open, s_num_list, s_num_pair, s_num_either, s_num_left, s_num_right, s_num_thing, s_num_fault, s_num_worth, s_num_table, s_truth_num, s_truth_truth, s_truth_open, s_truth_list, s_truth_pair, s_truth_either, s_truth_left, s_truth_right, s_truth_thing, s_truth_fault, s_truth_worth, s_truth_table, s_open_num, s_open_truth, s_open_open, s_open_list, s_open_pair, s_open_either, s_open_left, s_open_right, s_open_thing, s_open_fault, s_open_worth, s_open_table, s_list_num, s_list_truth, s_list_open, s_list_list, s_list_pair, s_list_either, s_list_left, s_list_right, s_list_thing, s_list_fault, s_list_worth, s_list_table, s_pair_num, s_pair_truth, s_pair_open, s_pair_list, s_pair_pair, s_pair_either, s_pair_left, s_pair_right, s_pair_thing, s_pair_fault, s_pair_worth, s_pair_table, s_either_num, s_either_truth, s_either_open, s_either_list, s_either_pair, s_either_either, s_either_left, s_either_right, s_either_thing, s_either_fault, s_either_worth, s_either_table, s_left_num, s_left_truth, s_left_open, s_left_list, s_left_pair, s_left_either, s_left_left, s_left_right, s_left_thing, s_left_fault, s_left_worth, s_left_table, s_right_num, s_right_truth, s_right_open, s_right_list, s_right_pair, s_right_either, s_right_left, s_right_right, s_right_thing, s_right_fault, s_right_worth, s_right_table, s_thing_num, s_thing_truth, s_thing_open, s_thing_list, s_thing_pair, s_thing_either, s_thing_left, s_thing_right, s_thing_thing, s_thing_fault, s_thing_worth, s_thing_table, s_fault_num, s_fault_truth, s_fault_open, s_fault_list, s_fault_pair, s_fault_either, s_fault_left, s_fault_right, s_fault_thing, s_fault_fault, s_fault_worth, s_fault_table, s_worth_num, s_worth_truth, s_worth_open, s_worth_list, s_worth_pair, s_worth_either, s_worth_left, s_worth_right, s_worth_thing, s_worth_fault, s_worth_worth, s_worth_table, s_table_num, s_table_truth, s_table_open, s_table_list, s_table_pair, s_table_either, s_table_left, s_table_right, s_table_thing, s_table_fault, s_table_worth, s_table_table]; exact same
      | eith a b => rw [hk] at same; try simp only [Kd.t, ev_t0, ev_t1, ev_t2, ev_eqs, ev_eqi, ev_intb, ev_inti, ev_add, ev_sub, ev_lt, ev_gt, ev_sl1, ev_in2, ev_lent, ev_isn, Bool.or_false, Bool.or_true, Bool.false_or, Bool.true_or, eqG_f, eqG_t, kq, Bool.not_true, Bool.not_false, if_true, if_false, ite_true, ite_false, reduceIte, s_num_num, s_num_truth, s_num_open, s_num_list, s_num_pair, s_num_either, s_num_left, s_num_right, s_num_thing, s_num_fault, s_num_worth, s_num_table, s_truth_num, s_truth_truth, s_truth_open, s_truth_list, s_truth_pair, s_truth_either, s_truth_left, s_truth_right, s_truth_thing, s_truth_fault, s_truth_worth, s_truth_table, s_open_num, s_open_truth, s_open_open, s_open_list, s_open_pair, s_open_either, s_open_left, s_open_right, s_open_thing, s_open_fault, s_open_worth, s_open_table, s_list_num, s_list_truth, s_list_open, s_list_list, s_list_pair, s_list_either, s_list_left, s_list_right, s_list_thing, s_list_fault, s_list_worth, s_list_table, s_pair_num, s_pair_truth, s_pair_open, s_pair_list, s_pair_pair, s_pair_either, s_pair_left, s_pair_right, s_pair_thing, s_pair_fault, s_pair_worth, s_pair_table, s_either_num, s_either_truth, s_either_open, s_either_list, s_either_pair, s_either_either, s_either_left, s_either_right, s_either_thing, s_either_fault, s_either_worth, s_either_table, s_left_num, s_left_truth, s_left_open, s_left_list, s_left_pair, s_left_either, s_left_left, s_left_right, s_left_thing, s_left_fault, s_left_worth, s_left_table, s_right_num, s_right_truth, s_right_open, s_right_list, s_right_pair, s_right_either, s_right_left, s_right_right, s_right_thing, s_right_fault, s_right_worth, s_right_table, s_thing_num, s_thing_truth, s_thing_open, s_thing_list, s_thing_pair, s_thing_either, s_thing_left, s_thing_right, s_thing_thing, s_thing_fault, s_thing_worth, s_thing_table, s_fault_num, s_fault_truth, s_fault_open, s_fault_list, s_fault_pair, s_fault_either, s_fault_left, s_fault_right, s_fault_thing, s_fault_fault, s_fault_worth, s_fault_table, s_worth_num, s_worth_truth, s_worth_open, s_worth_list, s_worth_pair, s_worth_either, s_worth_left, s_worth_right, s_worth_thing, s_worth_fault, s_worth_worth, s_worth_table, s_table_num, s_table_truth, s_table_open, s_table_list, s_table_pair, s_table_either, s_table_left, s_table_right, s_table_thing, s_table_fault, s_table_worth, s_table_table]; exact same
      | fn a b => rw [hk] at same; try simp only [Kd.t, s_fun_open, ev_t0, ev_t1, ev_t2, ev_eqs, ev_eqi, ev_intb, ev_inti, ev_add, ev_sub, ev_lt, ev_gt, ev_sl1, ev_in2, ev_lent, ev_isn, Bool.or_false, Bool.or_true, Bool.false_or, Bool.true_or, eqG_f, eqG_t, kq, Bool.not_true, Bool.not_false, if_true, if_false, ite_true, ite_false, reduceIte, s_num_num, s_num_truth, s_num_open, s_num_list, s_num_pair, s_num_either, s_num_left, s_num_right, s_num_thing, s_num_fault, s_num_worth, s_num_table, s_truth_num, s_truth_truth, s_truth_open, s_truth_list, s_truth_pair, s_truth_either, s_truth_left, s_truth_right, s_truth_thing, s_truth_fault, s_truth_worth, s_truth_table, s_open_num, s_open_truth, s_open_open, s_open_list, s_open_pair, s_open_either, s_open_left, s_open_right, s_open_thing, s_open_fault, s_open_worth, s_open_table, s_list_num, s_list_truth, s_list_open, s_list_list, s_list_pair, s_list_either, s_list_left, s_list_right, s_list_thing, s_list_fault, s_list_worth, s_list_table, s_pair_num, s_pair_truth, s_pair_open, s_pair_list, s_pair_pair, s_pair_either, s_pair_left, s_pair_right, s_pair_thing, s_pair_fault, s_pair_worth, s_pair_table, s_either_num, s_either_truth, s_either_open, s_either_list, s_either_pair, s_either_either, s_either_left, s_either_right, s_either_thing, s_either_fault, s_either_worth, s_either_table, s_left_num, s_left_truth, s_left_open, s_left_list, s_left_pair, s_left_either, s_left_left, s_left_right, s_left_thing, s_left_fault, s_left_worth, s_left_table, s_right_num, s_right_truth, s_right_open, s_right_list, s_right_pair, s_right_either, s_right_left, s_right_right, s_right_thing, s_right_fault, s_right_worth, s_right_table, s_thing_num, s_thing_truth, s_thing_open, s_thing_list, s_thing_pair, s_thing_either, s_thing_left, s_thing_right, s_thing_thing, s_thing_fault, s_thing_worth, s_thing_table, s_fault_num, s_fault_truth, s_fault_open, s_fault_list, s_fault_pair, s_fault_either, s_fault_left, s_fault_right, s_fault_thing, s_fault_fault, s_fault_worth, s_fault_table, s_worth_num, s_worth_truth, s_worth_open, s_worth_list, s_worth_pair, s_worth_either, s_worth_left, s_worth_right, s_worth_thing, s_worth_fault, s_worth_worth, s_worth_table, s_table_num, s_table_truth, s_table_open, s_table_list, s_table_pair, s_table_either, s_table_left, s_table_right, s_table_thing, s_table_fault, s_table_worth, s_table_table]; exact same
      | opn y =>
        rw [hk] at same skip p2
        try simp only [Kd.t, ev_t0, ev_t1, ev_t2, ev_eqs, ev_eqi, ev_intb, ev_inti, ev_add, ev_sub, ev_lt, ev_gt, ev_sl1, ev_in2, ev_lent, ev_isn, Bool.or_false, Bool.or_true, Bool.false_or, Bool.true_or, eqG_f, eqG_t, kq, Bool.not_true, Bool.not_false, if_true, if_false, ite_true, ite_false, reduceIte, s_num_num, s_num_truth, s_num_open, s_num_list, s_num_pair, s_num_either, s_num_left, s_num_right, s_num_thing, s_num_fault, s_num_worth, s_num_table, s_truth_num, s_truth_truth, s_truth_open, s_truth_list, s_truth_pair, s_truth_either, s_truth_left, s_truth_right, s_truth_thing, s_truth_fault, s_truth_worth, s_truth_table, s_open_num, s_open_truth, s_open_open, s_open_list, s_open_pair, s_open_either, s_open_left, s_open_right, s_open_thing, s_open_fault, s_open_worth, s_open_table, s_list_num, s_list_truth, s_list_open, s_list_list, s_list_pair, s_list_either, s_list_left, s_list_right, s_list_thing, s_list_fault, s_list_worth, s_list_table, s_pair_num, s_pair_truth, s_pair_open, s_pair_list, s_pair_pair, s_pair_either, s_pair_left, s_pair_right, s_pair_thing, s_pair_fault, s_pair_worth, s_pair_table, s_either_num, s_either_truth, s_either_open, s_either_list, s_either_pair, s_either_either, s_either_left, s_either_right, s_either_thing, s_either_fault, s_either_worth, s_either_table, s_left_num, s_left_truth, s_left_open, s_left_list, s_left_pair, s_left_either, s_left_left, s_left_right, s_left_thing, s_left_fault, s_left_worth, s_left_table, s_right_num, s_right_truth, s_right_open, s_right_list, s_right_pair, s_right_either, s_right_left, s_right_right, s_right_thing, s_right_fault, s_right_worth, s_right_table, s_thing_num, s_thing_truth, s_thing_open, s_thing_list, s_thing_pair, s_thing_either, s_thing_left, s_thing_right, s_thing_thing, s_thing_fault, s_thing_worth, s_thing_table, s_fault_num, s_fault_truth, s_fault_open, s_fault_list, s_fault_pair, s_fault_either, s_fault_left, s_fault_right, s_fault_thing, s_fault_fault, s_fault_worth, s_fault_table, s_worth_num, s_worth_truth, s_worth_open, s_worth_list, s_worth_pair, s_worth_either, s_worth_left, s_worth_right, s_worth_thing, s_worth_fault, s_worth_worth, s_worth_table, s_table_num, s_table_truth, s_table_open, s_table_list, s_table_pair, s_table_either, s_table_left, s_table_right, s_table_thing, s_table_fault, s_table_worth, s_table_table]
        refine st_looked g5.tl fun al lo l1 l2 hal => st_inL hal ?_
        try simp only [ev_t0, ev_t1, ev_t2, ev_eqs, ev_eqi, ev_intb, ev_inti, ev_add, ev_sub, ev_lt, ev_gt, ev_sl1, ev_in2, ev_lent, ev_isn, Bool.or_false, Bool.or_true, Bool.false_or, Bool.true_or, eqG_f, eqG_t, kq, Bool.not_true, Bool.not_false, if_true, if_false, ite_true, ite_false, reduceIte, s_num_num, s_num_truth, s_num_open, s_num_list, s_num_pair, s_num_either, s_num_left, s_num_right, s_num_thing, s_num_fault, s_num_worth, s_num_table, s_truth_num, s_truth_truth, s_truth_open, s_truth_list, s_truth_pair, s_truth_either, s_truth_left, s_truth_right, s_truth_thing, s_truth_fault, s_truth_worth, s_truth_table, s_open_num, s_open_truth, s_open_open, s_open_list, s_open_pair, s_open_either, s_open_left, s_open_right, s_open_thing, s_open_fault, s_open_worth, s_open_table, s_list_num, s_list_truth, s_list_open, s_list_list, s_list_pair, s_list_either, s_list_left, s_list_right, s_list_thing, s_list_fault, s_list_worth, s_list_table, s_pair_num, s_pair_truth, s_pair_open, s_pair_list, s_pair_pair, s_pair_either, s_pair_left, s_pair_right, s_pair_thing, s_pair_fault, s_pair_worth, s_pair_table, s_either_num, s_either_truth, s_either_open, s_either_list, s_either_pair, s_either_either, s_either_left, s_either_right, s_either_thing, s_either_fault, s_either_worth, s_either_table, s_left_num, s_left_truth, s_left_open, s_left_list, s_left_pair, s_left_either, s_left_left, s_left_right, s_left_thing, s_left_fault, s_left_worth, s_left_table, s_right_num, s_right_truth, s_right_open, s_right_list, s_right_pair, s_right_either, s_right_left, s_right_right, s_right_thing, s_right_fault, s_right_worth, s_right_table, s_thing_num, s_thing_truth, s_thing_open, s_thing_list, s_thing_pair, s_thing_either, s_thing_left, s_thing_right, s_thing_thing, s_thing_fault, s_thing_worth, s_thing_table, s_fault_num, s_fault_truth, s_fault_open, s_fault_list, s_fault_pair, s_fault_either, s_fault_left, s_fault_right, s_fault_thing, s_fault_fault, s_fault_worth, s_fault_table, s_worth_num, s_worth_truth, s_worth_open, s_worth_list, s_worth_pair, s_worth_either, s_worth_left, s_worth_right, s_worth_thing, s_worth_fault, s_worth_worth, s_worth_table, s_table_num, s_table_truth, s_table_open, s_table_list, s_table_pair, s_table_either, s_table_left, s_table_right, s_table_thing, s_table_fault, s_table_worth, s_table_table]
        cases decide (y ∈ lo) with
        | false => exact same
        | true =>
          simp only []
          refine ⟨st_isl hss, z4000 (by simp), z4000 (by simp), z4000 (by simp), z4000 (by simp), z4000 (by simp), ?_⟩
          refine st_app hss (Nat.lt_of_lt_of_le (show _ < 500 by rw [List.length_cons]; have := g.few; omega) (by decide)) fun S6 u6 => ?_
          have h6 : S6 F = some (.lst (.tup [.str "truth", .bl bb] :: (ss ++ [.tup [.str "alike", holeT (.opn y) [], holeT (.opn y) []]]))) := u6.at_
          refine skip S6 (fun a o na h => u6.get na (kp a o na h)) ⟨bb, _, h6, by rw [List.length_append]; simp; omega, fun s hs => ?_⟩
          rcases List.mem_append.mp hs with z | z
          · exact hsp s z
          · rw [List.mem_singleton.mp z]; exact shp_alike p2
end LAW
set_option Elab.async false
set_option linter.all false
set_option maxRecDepth 100000
set_option maxHeartbeats 1000000
/-! D21: shapes that lead to any data kind: the parts. -/
namespace LAW
open PySem PySem.Spec PyProof.Rows L2 TL
theorem up_mono {d e : Int} (h : e ≤ d) : up d ≤ up e := by unfold up; omega
theorem Kg.mono {d e : Int} {k : Kd} (h : Kg d k) (he : e ≤ d) : Kg e k := by
  have hu := up_mono he
  have h3 : 2 ^ up d ≤ 2 ^ up e := Nat.pow_le_pow_right (by decide) hu
  exact ⟨h.ok, by have := h.m; omega, by have := h.h; omega, h.ar⟩
theorem Knd.mono {d e : Int} {ks : List (Str × Kd)} (h : Knd d ks) (he : e ≤ d) : Knd e ks := fun p hp => ⟨(h p hp).1, (h p hp).2.mono he⟩
theorem up_dn {d : Int} (h1 : 1 ≤ d) (h6 : d ≤ 6) : up (d - 1) = up d + 1 ∧ 80 * 2 ^ up (d - 1) = 2 * (80 * 2 ^ up d) := by
  have e : up (d - 1) = up d + 1 := by unfold up; omega
  exact ⟨e, by rw [e, Nat.pow_succ]; omega⟩
section
variable {d : Int} {a b k : Kd} (h1 : 1 ≤ d) (h6 : d ≤ 6)
include h1 h6
theorem kg_pair (ha : Kg d a) (hb : Kg d b) : Kg (d - 1) (.pair a b) := by
  obtain ⟨e1, e2⟩ := up_dn h1 h6
  have := ha.m; have := hb.m; have := ha.h; have := hb.h
  exact ⟨⟨ha.ok, hb.ok⟩, by show a.m + b.m + 2 + 2 ≤ _; omega, by show max a.h b.h + 1 ≤ _; omega, Nat.zero_le _⟩
theorem kg_eith (ha : Kg d a) (hb : Kg d b) : Kg (d - 1) (.eith a b) := by
  obtain ⟨e1, e2⟩ := up_dn h1 h6
  have := ha.m; have := hb.m; have := ha.h; have := hb.h
  exact ⟨⟨ha.ok, hb.ok⟩, by show a.m + b.m + 2 + 2 ≤ _; omega, by show max a.h b.h + 1 ≤ _; omega, Nat.zero_le _⟩
theorem kg_put {o : Str} (ho : lower o) (hk : Kg d (.lst k)) : Kg (d - 1) (.fn k (.fn (.opn o) (.opn o))) := by
  obtain ⟨e1, e2⟩ := up_dn h1 h6
  have m1 : k.m + 2 + 2 ≤ 80 * 2 ^ up d := hk.m
  have m2 : k.h + 1 ≤ 6 + 3 * up d := hk.h
  have m3 : k.ok := hk.ok
  have m4 := Nat.one_le_two_pow (n := up d)
  refine ⟨⟨m3, ⟨ho, ho, by show 0 ≤ 2; omega⟩, by show 0 + 1 ≤ 2; omega⟩, ?_, ?_, by show 0 + 1 + 1 ≤ 3; omega⟩
  · show k.m + (3 + 3 + 2) + 2 + 2 ≤ _; omega
  · show max k.h (max 0 0 + 1) + 1 ≤ _; omega
end
theorem kg_opn {d : Int} {o : Str} (h : lower o) : Kg d (.opn o) := ⟨h, by show 3 + 2 ≤ _; have := Nat.one_le_two_pow (n := up d); omega, Nat.zero_le _, Nat.zero_le _⟩
theorem kg_part1 {d : Int} {a b : Kd} (h : Kg d (.eith a b)) : Kg d a ∧ Kg d b :=
  ⟨(h.sub h.ok.1 (by show a.m ≤ a.m + b.m + 2; omega) (by show a.h < max a.h b.h + 1; omega)).kg, (h.sub h.ok.2 (by show b.m ≤ a.m + b.m + 2; omega) (by show b.h < max a.h b.h + 1; omega)).kg⟩
theorem kg_item {d : Int} {k : Kd} (h : Kg d (.lst k)) : Kg d k := (h.sub (show k.ok from h.ok) (by show k.m ≤ k.m + 2; omega) (by show k.h < k.h + 1; omega)).kg
theorem low_snoc {x : Str} {c : Nat} (h : lower x) (hc : 97 ≤ c ∧ c ≤ 122) : low9 (x ++ (⟨#[c]⟩ : Str)) := by
  have e1 : (x ++ (⟨#[c]⟩ : Str)).length = x.length + 1 := strLen_append _ _
  refine ⟨by rw [e1]; have := h.2.1; omega, fun y hy => ?_⟩
  have e2 : (x ++ (⟨#[c]⟩ : Str)).cps.toList = x.cps.toList ++ [c] := by
    show (x.cps ++ #[c]).toList = _
    simp
  rw [e2] at hy
  rcases List.mem_append.mp hy with z | z
  · exact h.2.2 y z
  · rw [List.mem_singleton.mp z]; exact hc
theorem str_c : (Str.ofString "c") = ⟨#[99]⟩ := by decide +kernel
theorem str_n : (Str.ofString "n") = ⟨#[110]⟩ := by decide +kernel
/-- what a hole of other_shapes may be -/
abbrev HPo (d : Int) : Kd → List (Str × Kd) → Prop := fun k ns => Kg (d - 1) k ∧ Knd (d - 1) ns ∧ ns.length ≤ 2
theorem oh {d : Int} {k : Kd} (h : Kg (d - 1) k) : ∀ j, Shp (HPo d) j (holeT k []) := shp_hole ⟨h, knd_nil, Nat.zero_le _⟩
theorem oh1 {d : Int} {k l : Kd} {x : Str} (h : Kg (d - 1) k) (hx : low9 x) (hl : Kg (d - 1) l) : ∀ j, Shp (HPo d) j (holeT k [(x, l)]) := shp_hole ⟨h, fun p hp => by rw [List.mem_singleton.mp hp]; exact ⟨hx, hl⟩, by simp⟩
theorem oh2 {d : Int} {k l m : Kd} {x y : Str} (h : Kg (d - 1) k) (hx : low9 x) (hl : Kg (d - 1) l) (hy : low9 y) (hm : Kg (d - 1) m) : ∀ j, Shp (HPo d) j (holeT k [(x, l), (y, m)]) := shp_hole ⟨h, fun p hp => by
  rcases List.mem_cons.mp hp with z | z
  · rw [z]; exact ⟨hx, hl⟩
  · rw [List.mem_singleton.mp z]; exact ⟨hy, hm⟩, by simp⟩
theorem sg_if : signs "if" = some [true, true, true] := by decide +kernel
theorem sg_first : signs "first" = some [true] := by decide +kernel
theorem sg_second : signs "second" = some [true] := by decide +kernel
theorem sg_case : signs "case" = some [true, false, true, false, true] := by decide +kernel
theorem sg_fold : signs "fold" = some [true, true, false, false, true] := by decide +kernel
theorem sg_built : signs "built" = some [false, false, false, false, true] := by decide +kernel
section
variable {d : Int} {a b k l m : Kd} {x y c n o : Str}
theorem o_if (hk : Kg (d - 1) k) : Shp (HPo d) 2 (.tup [.str "if", holeT .tru [], holeT k [], holeT k []]) := shp_form sg_if ⟨oh .tru _, oh hk _, oh hk _, trivial⟩ (by decide +kernel)
theorem o_first (hk : Kg (d - 1) k) : Shp (HPo d) 2 (.tup [.str "first", holeT k []]) := shp_form sg_first ⟨oh hk _, trivial⟩ (by decide +kernel)
theorem o_second (hk : Kg (d - 1) k) : Shp (HPo d) 2 (.tup [.str "second", holeT k []]) := shp_form sg_second ⟨oh hk _, trivial⟩ (by decide +kernel)
theorem o_case (hk : Kg (d - 1) k) (he : Kg (d - 1) (.eith a b)) (hx : low9 x) (hy : low9 y) : Shp (HPo d) 2 (.tup [.str "case", holeT (.eith a b) [], .str x, holeT k [(x, a)], .str y, holeT k [(y, b)]]) :=
  shp_form sg_case ⟨oh he _, pb_str hx, oh1 hk hx (kg_part1 he).1 _, pb_str hy, oh1 hk hy (kg_part1 he).2 _, trivial⟩ (by decide +kernel)
theorem o_fold (hk : Kg (d - 1) k) (he : Kg (d - 1) (.lst a)) (hx : low9 x) (hy : low9 y) : Shp (HPo d) 2 (.tup [.str "fold", holeT (.lst a) [], holeT k [], .str x, .str y, holeT k [(x, a), (y, k)]]) :=
  shp_form sg_fold ⟨oh he _, oh hk _, pb_str hx, pb_str hy, oh2 hk hx (kg_item he) hy hk _, trivial⟩ (by decide +kernel)
theorem o_rounds {i : Int} (h0 : 1 ≤ i) (h1 : i ≤ 30) (hl : Kg (d - 1) l) (he : Kg (d - 1) (.eith l k)) (hx : low9 x) : Shp (HPo d) 2 (.tup [.str "rounds", .int i, holeT l [], .str x, holeT (.eith l k) [(x, l)]]) :=
  .inr ⟨_, _, _, rfl, signs_rounds, ⟨pb_int (by omega) (by omega), oh hl _, pb_str hx, oh1 he hx hl _, trivial⟩, fun _ => ⟨_, _, by omega, by omega, rfl⟩⟩
theorem o_call (hk : Kg (d - 1) k) (hl : Kg (d - 1) l) (hx : low9 x) : Shp (HPo d) 2 (.tup [.str "call", .tup [.str "fun", .str x, l.t, holeT k [(x, l)]], holeT l []]) :=
  shp_call (shp_form sg_fun ⟨pb_str hx, hl.pb, oh1 hk hx hl _, trivial⟩ (by decide +kernel)) (oh hl _)
theorem o_built (ho : lower o) (hk : Kg (d - 1) k) (hf : Kg (d - 1) (.fn k (.fn (.opn o) (.opn o)))) (hc : low9 c) (hn : low9 n) : Shp (HPo d) 2 (.tup [.str "built", k.t, .str o, .str c, .str n, holeT (.opn o) [(c, .fn k (.fn (.opn o) (.opn o))), (n, .opn o)]]) :=
  shp_form sg_built ⟨hk.pb, pb_str (lower9 ho), pb_str hc, pb_str hn, oh2 (kg_opn ho) hc hf hn (kg_opn ho) _, trivial⟩ (by decide +kernel)
end
/-! the dict of shapes -/
theorem valT_putother {kvs : List (Key × T)} {k l : Key} {v : T} (h : k ≠ l) : valT (putT kvs k v) l = valT kvs l := by
  unfold putT
  split
  · have gen : ∀ r : List (Key × T), valT (r.map fun kv => if kv.1 = k then (kv.1, v) else kv) l = valT r l := by
      intro r
      induction r with
      | nil => rfl
      | cons p r ih =>
        rw [List.map_cons]
        by_cases e : p.1 = k
        · have ne : ¬ p.1 = l := fun z => h (e.symm.trans z)
          rw [if_pos e, valT_neg ne]
          exact (valT_neg (p := (p.1, v)) ne).trans ih
        · rw [if_neg e]
          by_cases e2 : p.1 = l
          · rw [valT_pos e2, valT_pos e2]
          · rw [valT_neg e2, valT_neg e2, ih]
    exact gen kvs
  · have gen : ∀ r : List (Key × T), valT (r ++ [(k, v)]) l = valT r l := by
      intro r
      induction r with
      | nil => exact valT_neg h
      | cons p r ih =>
        rw [List.cons_append]
        by_cases e2 : p.1 = l
        · rw [valT_pos e2, valT_pos e2]
        · rw [valT_neg e2, valT_neg e2, ih]
    exact gen kvs
structure Fd (d : Int) (S : Sto) (F : Addr) (n : Nat) (ws : List Str) : Prop where
  ex : ∃ kvs, S F = some (.dk kvs) ∧ kvs.length ≤ n ∧ ∀ w ∈ ws, ∃ v, valT kvs (.inr w) = some v ∧ Shp (HPo d) 2 v
theorem Fd.kp {d : Int} {S S' : Sto} {F : Addr} {n : Nat} {ws : List Str} (f : Fd d S F n ws) (h : ∀ o, S F = some o → S' F = some o) : Fd d S' F n ws := by
  obtain ⟨kvs, h1, h2, h3⟩ := f.ex
  exact ⟨kvs, h _ h1, h2, h3⟩
theorem st_fput {d : Int} {S : Sto} {F : Addr} {n : Nat} {ws : List Str} {w : Str} {v : T} {R : Sto → Prop} (f : Fd d S F n ws) (hv : Shp (HPo d) 2 v) (hn : n < 100)
    (q : ∀ S', (∀ a o, a ≠ F → S a = some o → S' a = some o) → Fd d S' F (n + 1) (w :: ws) → R S') : oSet (.adr F) (.str w) v S R := by
  obtain ⟨kvs, h1, h2, h3⟩ := f.ex
  refine st_setd h1 rfl (Nat.lt_of_lt_of_le (show _ < 100 by omega) (by decide)) fun S' u => q S' (fun a o h e => u.get h e) ⟨_, u.at_, Nat.le_trans (length_putT _ _ _) (by omega), fun x hx => ?_⟩
  by_cases e : w = x
  · subst e; exact ⟨v, valT_putsame, hv⟩
  · rcases List.mem_cons.mp hx with z | z
    · exact (e z.symm).elim
    · obtain ⟨y, g1, g2⟩ := h3 x z
      exact ⟨y, by rw [valT_putother (fun z => e (by injection z))]; exact g1, g2⟩
theorem st_fget {d : Int} {S : Sto} {F : Addr} {n : Nat} {ws : List Str} {w : Str} {Q : T → Sto → Prop} (f : Fd d S F n ws) (hw : w ∈ ws) (q : ∀ v, Shp (HPo d) 2 v → Q v S) : oIx (.adr F) (.str w) S Q := by
  obtain ⟨kvs, h1, h2, h3⟩ := f.ex
  obtain ⟨v, g1, g2⟩ := h3 w hw
  exact st_ixd h1 rfl g1 (q v g2)
/-! kinds are chosen -/
theorem lc_kinds {S1 : Sto} {L : Addr} {kds : List Kd} {P : Kd → Prop} {tt : TTT} {ρ : Rho} {Q : T → Sto → Prop} (hL : S1 L = some (.lst (kds.map Kd.t))) (h4 : kds.length ≤ 400) (hρ : 7 < ρ.length)
    (ht : ∀ k ∈ kds, ∀ (S' : Sto) (R : Bool → Sto → Prop), Ex S1 S' → R false S' → (P k → R true S') → tt ((ρ.set 7 none).set 7 (some k.t)) S' R)
    (q : ∀ (ks' : List Kd) (D : Addr) (S' : Sto), (∀ k ∈ ks', k ∈ kds ∧ P k) → ks'.length ≤ 400 → Ex S1 S' → S1 D = none → S' D = some (.lst (ks'.map Kd.t)) → Q (.adr D) S') :
    LcB ⟨kds.map Kd.t, fun S => lstAt S L = some (kds.map Kd.t)⟩ (bt1 7) tt (tv 7) [7] ρ Q S1 := by
  have ex0 : ∀ S', Ex S1 S' → lstAt S' L = some (kds.map Kd.t) := fun S' e => lstAt_of (e _ _ hL)
  refine lc_kp (fun _ => False) (fun S' => Ex S1 S') (fun i acc => i ≤ kds.length ∧ ∃ ks' : List Kd, acc = ks'.map Kd.t ∧ ks'.length ≤ i ∧ ∀ k ∈ ks', k ∈ kds ∧ P k) (fun _ h => h.elim) (.refl _) (fun S S' p o h _ hp u a m e => u.get (fun z => by rw [z, hp] at e; cases e) (h a m e)) ⟨Nat.zero_le _, [], rfl, Nat.le_refl _, fun k hk => by cases hk⟩ fun i acc S' hA ex _ => ⟨ex0 S' ex, ?_⟩
  obtain ⟨hi, ks', rfl, hl, hP⟩ := hA
  simp only [List.getElem?_map]
  cases hx : kds[i]? with
  | none =>
    have := List.getElem?_eq_none_iff.mp hx
    simp only [Option.map_none]
    intro D hD hS
    exact q ks' D S' hP (by omega) ex hD hS
  | some k =>
    have hlt := (List.getElem?_eq_some_iff.mp hx).1
    have hm := List.mem_of_getElem? hx
    simp only [Option.map_some]
    refine ⟨_, rfl, Nat.lt_of_lt_of_le (show _ < 401 by rw [List.length_map]; omega) (by decide), fun Rt Rf r1 r2 => ?_⟩
    refine ht k hm S' _ ex (r2 S' .refl ex ⟨hlt, ks', rfl, by omega, hP⟩) fun hp => ?_
    show tv 7 ((ρ.set 7 none).set 7 (some k.t)) S' Rt
    have e7 : ((ρ.set 7 none).set 7 (some k.t))[7]? = some (some k.t) := by
      rw [List.getElem?_set_self (by rw [List.length_set]; exact hρ)]
    unfold tv
    rw [e7]
    refine r1 _ S' .refl ex ⟨hlt, ks' ++ [k], by rw [List.map_append]; rfl, by rw [List.length_append]; simp; omega, fun y hy => ?_⟩
    rcases List.mem_append.mp hy with z | z
    · exact hP y z
    · rw [List.mem_singleton.mp z]; exact ⟨hm, hp⟩
/-- a kind's head -/
theorem ev_kd0 {k : Kd} {S : Sto} {Q : T → Sto → Prop} : oIx k.t (.int 0) S Q = Q (.str k.w) S := by rw [kd_t]; exact ev_t0
theorem w_list {k : Kd} (h : (k.w == (Str.ofString "list")) = true) : ∃ a, k = .lst a := by
  cases k with
  | lst a => exact ⟨a, rfl⟩
  | num => exact Bool.noConfusion (s_num_list.symm.trans h)
  | tru => exact Bool.noConfusion (s_truth_list.symm.trans h)
  | opn _ => exact Bool.noConfusion (s_open_list.symm.trans h)
  | pair _ _ => exact Bool.noConfusion (s_pair_list.symm.trans h)
  | eith _ _ => exact Bool.noConfusion (s_either_list.symm.trans h)
  | fn _ _ => exact Bool.noConfusion (s_fun_list.symm.trans h)
theorem w_eith {k : Kd} (h : (k.w == (Str.ofString "either")) = true) : ∃ a b, k = .eith a b := by
  cases k with
  | eith a b => exact ⟨a, b, rfl⟩
  | num => exact Bool.noConfusion (s_num_either.symm.trans h)
  | tru => exact Bool.noConfusion (s_truth_either.symm.trans h)
  | opn _ => exact Bool.noConfusion (s_open_either.symm.trans h)
  | lst _ => exact Bool.noConfusion (s_list_either.symm.trans h)
  | pair _ _ => exact Bool.noConfusion (s_pair_either.symm.trans h)
  | fn _ _ => exact Bool.noConfusion (s_fun_either.symm.trans h)
theorem w_pair {k : Kd} (h : (k.w == (Str.ofString "pair")) = true) : ∃ a b, k = .pair a b := by
  cases k with
  | pair a b => exact ⟨a, b, rfl⟩
  | num => exact Bool.noConfusion (s_num_pair.symm.trans h)
  | tru => exact Bool.noConfusion (s_truth_pair.symm.trans h)
  | opn _ => exact Bool.noConfusion (s_open_pair.symm.trans h)
  | lst _ => exact Bool.noConfusion (s_list_pair.symm.trans h)
  | eith _ _ => exact Bool.noConfusion (s_either_pair.symm.trans h)
  | fn _ _ => exact Bool.noConfusion (s_fun_pair.symm.trans h)
/-- one of these, or those behind -/
theorem st_pickk {S : Sto} {D C L : Addr} {ks : List Kd} {zs : List Kd} {Q : T → Sto → Prop} (dk : Deck S D C) (nD : L ≠ D) (nC : L ≠ C) (hL : S L = some (.lst (ks.map Kd.t ++ zs.map Kd.t))) (h1 : 1 ≤ zs.length) (h2 : zs.length ≤ 2) (h4 : ks.length ≤ 400)
    (q : ∀ (k : Kd) (S' : Sto), (k ∈ ks ∨ k ∈ zs) → Fr D C S S' → Q k.t S') : spPick [.adr D, .adr L] S Q := by
  refine ⟨D, C, L, _, rfl, dk, nD, nC, hL, by simp; omega, by simp; omega, fun v S' hv f => ?_⟩
  rcases List.mem_append.mp hv with z | z
  · obtain ⟨k, hk, rfl⟩ := List.mem_map.mp z
    exact q k S' (.inl hk) f
  · obtain ⟨k, hk, rfl⟩ := List.mem_map.mp z
    exact q k S' (.inr hk) f
end LAW
set_option Elab.async false
set_option linter.all false
set_option maxRecDepth 100000
set_option maxHeartbeats 2000000
/-! D22: shapes that lead to any data kind: the walk. -/
namespace LAW
open PySem PySem.Spec PyProof.Rows L2 TL
theorem at3_0 {x y z : T} : atI [x, y, z] 0 = some x := rfl
theorem at3_1 {x y z : T} : atI [x, y, z] 1 = some y := rfl
theorem cut3_2 {x y z : T} : cutT [x, y, z] (some 2) none = [z] := rfl
theorem snds_known (ms : List (Str × Kd)) : (ms.map kK).map (·.2) = (ms.map (·.2)).map Kd.t := by rw [List.map_map, List.map_map]; rfl
theorem st_inK {neg : Bool} {S : Sto} {M : Addr} {x : Str} {kvs : List (Key × T)} {Q : T → Sto → Prop} (h : S M = some (.fk kvs)) (q : ∀ b, Q (.bl b) S) : oInG neg (.str x) (.adr M) S Q := by
  have e1 : lstAt S M = none := by unfold lstAt; rw [h]
  have e2 : dget S M (.str x) = some (valT kvs (.inr x)) := by unfold dget; rw [h]; rfl
  unfold oInG
  simp only [e1, e2]
  exact q _
theorem vc_other (ts : List T) (S : Sto) (Q : T → Sto → Prop) (hl : ts.length = 4) (h : spOther ts S Q) : t_Lother_shapes (endT Q) (startT N_Lother_shapes.length ts) S := by
  obtain ⟨D, C, tl, kn, own, ks, kd, d, rfl, g, d1, q⟩ := h
  have d6 := g.d6
  have hk := g.kg
  have hk' : Kg (d - 1) kd := hk.mono (by omega)
  rw [show startT N_Lother_shapes.length [T.adr D, .adr tl, .adr kn, kd.t] = [some (.adr D), some (.adr tl), some (.adr kn), some kd.t, none, none, none, none, none, none, none, none, none, none, none, none, none, none, none, none, none] from rfl]
  unfold t_Lother_shapes
  refine seq_cut fun v1 hv1 => ?_
  try simp only [tsPar, tsNx, tsSeq, tsBrk, tsCt, tsDrop, tsRet, tsRetN, tsIf, tsAsg, tgN, tgsNil, tgsCons, tgTup, tgSub, tsFor, tsWhile, tiSeq, tiRng1, tiRng2, tiZip, tb, tv, tc, tac, tan, ttup, tlst, tq, tand, tor, tnot, tife, tandV, torV, tnotV, tneg, tsl, tno, tpt, tcall, tbi, tml, tml0, tmj, tisi, tlRev, tlRng1, tdisp, tps, tlc_eq, tiEnumS, tixK, tiItems, tiVals, ttYes, bt1, btN, setsT, wipeT, endT, List.getElem?_cons_zero, List.getElem?_cons_succ, List.set_cons_zero, List.set_cons_succ]
  refine st_names g.tl fun an a b c a1 a2 ha la lb lc => ?_
  refine st_ixl ha at3_0 ?_
  refine st_names g.tl fun an' a' b' c' a1' a2' ha' la' lb' lc' => ?_
  refine st_ixl ha' at3_1 ?_
  clear ha
  rw [hv1]
  refine seq_cut fun v2 hv2 => ?_
  -- behind the names
  have rest : ∀ (x y : Str) (S1 : Sto), lower x → lower y → Fr D C S S1 → v2 (endT Q) [some (.adr D), some (.adr tl), some (.adr kn), some kd.t, none, none, none, none, none, none, none, none, none, none, none, some (.str x), some (.str y), none, none, none, none] S1 := by
    intro x y S1 hx hy f1
    have g1 := g.fr f1
    have hx9 := lower9 hx
    have hy9 := lower9 hy
    rw [hv2]
    clear hv1 hv2
    refine seq_cut fun v3 hv3 => ?_
    try simp only [tlVals, tsNx, tsSeq, tsBrk, tsCt, tsDrop, tsRet, tsRetN, tsIf, tsAsg, tgN, tgsNil, tgsCons, tgTup, tgSub, tsFor, tsWhile, tiSeq, tiRng1, tiRng2, tiZip, tb, tv, tc, tac, tan, ttup, tlst, tq, tand, tor, tnot, tife, tandV, torV, tnotV, tneg, tsl, tno, tpt, tcall, tbi, tml, tml0, tmj, tisi, tlRev, tlRng1, tdisp, tps, tlc_eq, tiEnumS, tixK, tiItems, tiVals, ttYes, bt1, btN, setsT, wipeT, endT, List.getElem?_cons_zero, List.getElem?_cons_succ, List.set_cons_zero, List.set_cons_succ]
    refine st_known g1.kn g1.kks g1.few fun ms M S2 hms hml hM hMM x2 => ?_
    simp only [hMM]
    rw [snds_known]
    refine nw fun L S3 hL hLL x3 => ?_
    have f3 := (f1.ex x2).ex x3
    have hLS : S L = none := f1.none g.dk (x2.none hL)
    obtain ⟨LD, LC⟩ := g.dk.neS hLS
    have k4 : ((ms.map (·.2)) : List Kd).length ≤ 400 := by rw [List.length_map]; have := g1.few; omega
    have kks : ∀ k ∈ ms.map (·.2), Kg d k := fun k hk => by
      obtain ⟨p, hp, rfl⟩ := List.mem_map.mp hk
      exact (hms p hp).2
    generalize ms.map (·.2) = kds at *
    clear hMM hM hms hml x2 x3 hL
    rw [hv3]
    refine seq_cut fun v4 hv4 => ?_
    try simp only [tsNx, tsSeq, tsBrk, tsCt, tsDrop, tsRet, tsRetN, tsIf, tsAsg, tgN, tgsNil, tgsCons, tgTup, tgSub, tsFor, tsWhile, tiSeq, tiRng1, tiRng2, tiZip, tb, tv, tc, tac, tan, ttup, tlst, tq, tand, tor, tnot, tife, tandV, torV, tnotV, tneg, tsl, tno, tpt, tcall, tbi, tml, tml0, tmj, tisi, tlRev, tlRng1, tdisp, tps, tlc_eq, tiEnumS, tixK, tiItems, tiVals, ttYes, bt1, btN, setsT, wipeT, endT, List.getElem?_cons_zero, List.getElem?_cons_succ, List.set_cons_zero, List.set_cons_succ]
    simp only [lstAt_of hLL]
    refine lc_kinds (P := fun k => ∃ a, k = .lst a) hLL k4 (by simp) (fun k hk S' R ex r1 r2 => ?_) fun ls A S4 hls hll ex4 hA hAA => ?_
    · try simp only [tsNx, tsSeq, tsBrk, tsCt, tsDrop, tsRet, tsRetN, tsIf, tsAsg, tgN, tgsNil, tgsCons, tgTup, tgSub, tsFor, tsWhile, tiSeq, tiRng1, tiRng2, tiZip, tb, tv, tc, tac, tan, ttup, tlst, tq, tand, tor, tnot, tife, tandV, torV, tnotV, tneg, tsl, tno, tpt, tcall, tbi, tml, tml0, tmj, tisi, tlRev, tlRng1, tdisp, tps, tlc_eq, tiEnumS, tixK, tiItems, tiVals, ttYes, bt1, btN, setsT, wipeT, endT, List.getElem?_cons_zero, List.getElem?_cons_succ, List.set_cons_zero, List.set_cons_succ]
      simp only [ev_kd0, ev_eqs, eqG_f, kq]
      cases hw : k.w == (Str.ofString "list") with
      | false => exact r1
      | true => exact r2 (w_list hw)
    refine ⟨z4000 (by simp), z4000 (by simp), z4000 (by simp), ?_⟩
    refine nw fun B S5 hB hBB x5 => ?_
    refine st_addl (x5 _ _ hAA) hBB (z4000 (by simp; omega)) (nw fun E S6 hE hEE x6 => ?_)
    have f6 := (f3.ex ex4).ex (x5.trans x6)
    have hL6 := x6 _ _ (x5 _ _ (ex4 _ _ hLL))
    obtain ⟨ED, EC⟩ := (f3.ex (ex4.trans x5)).dk.neS hE
    rw [hv4]
    clear hAA hBB hA hB hE x5 x6 ex4 hLL f3 hv3 hv4
    refine seq_cut fun v5 hv5 => ?_
    try simp only [tsNx, tsSeq, tsBrk, tsCt, tsDrop, tsRet, tsRetN, tsIf, tsAsg, tgN, tgsNil, tgsCons, tgTup, tgSub, tsFor, tsWhile, tiSeq, tiRng1, tiRng2, tiZip, tb, tv, tc, tac, tan, ttup, tlst, tq, tand, tor, tnot, tife, tandV, torV, tnotV, tneg, tsl, tno, tpt, tcall, tbi, tml, tml0, tmj, tisi, tlRev, tlRng1, tdisp, tps, tlc_eq, tiEnumS, tixK, tiItems, tiVals, ttYes, bt1, btN, setsT, wipeT, endT, List.getElem?_cons_zero, List.getElem?_cons_succ, List.set_cons_zero, List.set_cons_succ]
    refine ⟨rfl, st_pickk (ks := ls) (zs := [.lst .num]) f6.dk ED EC hEE (by simp) (by simp) hll fun kr S7 hkr f7' => ?_⟩
    obtain ⟨r, rfl, hr⟩ : ∃ r, kr = .lst r ∧ Kg d (.lst r) := by
      rcases hkr with z | z
      · obtain ⟨h1, r, rfl⟩ := hls kr z
        exact ⟨r, rfl, kks _ h1⟩
      · rw [List.mem_singleton.mp z]
        exact ⟨.num, rfl, trivial, by show 2 + 2 + 2 ≤ _; have := Nat.one_le_two_pow (n := up d); omega, by show 1 ≤ _; omega, Nat.zero_le _⟩
    have f7 := f6.trans f7'
    have hL7 := f7'.kp _ _ LD LC hL6
    clear hEE f7' hL6 f6 hls hll hkr
    rw [hv5]
    clear hv5
    -- both
    refine seq_cut fun v6 hv6 => ?_
    try simp only [tsNx, tsSeq, tsBrk, tsCt, tsDrop, tsRet, tsRetN, tsIf, tsAsg, tgN, tgsNil, tgsCons, tgTup, tgSub, tsFor, tsWhile, tiSeq, tiRng1, tiRng2, tiZip, tb, tv, tc, tac, tan, ttup, tlst, tq, tand, tor, tnot, tife, tandV, torV, tnotV, tneg, tsl, tno, tpt, tcall, tbi, tml, tml0, tmj, tisi, tlRev, tlRng1, tdisp, tps, tlc_eq, tiEnumS, tixK, tiItems, tiVals, ttYes, bt1, btN, setsT, wipeT, endT, List.getElem?_cons_zero, List.getElem?_cons_succ, List.set_cons_zero, List.set_cons_succ]
    simp only [lstAt_of hL7]
    refine lc_kinds (P := fun k => ∃ a b, k = .eith a b) hL7 k4 (by simp) (fun k hk S' R ex r1 r2 => ?_) fun ls A S8 hls hll ex8 hA hAA => ?_
    · try simp only [tsNx, tsSeq, tsBrk, tsCt, tsDrop, tsRet, tsRetN, tsIf, tsAsg, tgN, tgsNil, tgsCons, tgTup, tgSub, tsFor, tsWhile, tiSeq, tiRng1, tiRng2, tiZip, tb, tv, tc, tac, tan, ttup, tlst, tq, tand, tor, tnot, tife, tandV, torV, tnotV, tneg, tsl, tno, tpt, tcall, tbi, tml, tml0, tmj, tisi, tlRev, tlRng1, tdisp, tps, tlc_eq, tiEnumS, tixK, tiItems, tiVals, ttYes, bt1, btN, setsT, wipeT, endT, List.getElem?_cons_zero, List.getElem?_cons_succ, List.set_cons_zero, List.set_cons_succ]
      simp only [ev_kd0, ev_eqs, eqG_f, kq]
      cases hw : k.w == (Str.ofString "either") with
      | false => exact r1
      | true => exact r2 (w_eith hw)
    refine ⟨z4000 (by simp), z4000 (by simp), z4000 (by simp), ?_⟩
    refine nw fun B S9 hB hBB x9 => ?_
    refine st_addl (x9 _ _ hAA) hBB (z4000 (by simp; omega)) (nw fun E2 S10 hE hEE x10 => ?_)
    have f10 := f7.ex (ex8.trans (x9.trans x10))
    have hL10 := x10 _ _ (x9 _ _ (ex8 _ _ hL7))
    obtain ⟨ED2, EC2⟩ := (f7.ex (ex8.trans x9)).dk.neS hE
    rw [hv6]
    clear hAA hBB hA hB hE x9 x10 ex8 hL7 f7 hv6
    refine seq_cut fun v7 hv7 => ?_
    try simp only [tsNx, tsSeq, tsBrk, tsCt, tsDrop, tsRet, tsRetN, tsIf, tsAsg, tgN, tgsNil, tgsCons, tgTup, tgSub, tsFor, tsWhile, tiSeq, tiRng1, tiRng2, tiZip, tb, tv, tc, tac, tan, ttup, tlst, tq, tand, tor, tnot, tife, tandV, torV, tnotV, tneg, tsl, tno, tpt, tcall, tbi, tml, tml0, tmj, tisi, tlRev, tlRng1, tdisp, tps, tlc_eq, tiEnumS, tixK, tiItems, tiVals, ttYes, bt1, btN, setsT, wipeT, endT, List.getElem?_cons_zero, List.getElem?_cons_succ, List.set_cons_zero, List.set_cons_succ]
    refine ⟨rfl, st_pickk (ks := ls) (zs := [.eith .tru kd]) f10.dk ED2 EC2 hEE (by simp) (by simp) hll fun kb S11 hkb f11' => ?_⟩
    obtain ⟨b1, b2, rfl, hb⟩ : ∃ b1 b2, kb = .eith b1 b2 ∧ Kg (d - 1) (.eith b1 b2) := by
      rcases hkb with z | z
      · obtain ⟨h1, b1, b2, rfl⟩ := hls kb z
        exact ⟨b1, b2, rfl, (kks _ h1).mono (by omega)⟩
      · rw [List.mem_singleton.mp z]
        exact ⟨_, _, rfl, kg_eith d1 d6 .tru hk⟩
    have f11 := f10.trans f11'
    have hL11 := f11'.kp _ _ LD LC hL10
    clear hEE f11' hL10 f10 hls hll hkb
    rw [hv7]
    clear hv7
    -- one
    refine seq_cut fun v8 hv8 => ?_
    try simp only [tsNx, tsSeq, tsBrk, tsCt, tsDrop, tsRet, tsRetN, tsIf, tsAsg, tgN, tgsNil, tgsCons, tgTup, tgSub, tsFor, tsWhile, tiSeq, tiRng1, tiRng2, tiZip, tb, tv, tc, tac, tan, ttup, tlst, tq, tand, tor, tnot, tife, tandV, torV, tnotV, tneg, tsl, tno, tpt, tcall, tbi, tml, tml0, tmj, tisi, tlRev, tlRng1, tdisp, tps, tlc_eq, tiEnumS, tixK, tiItems, tiVals, ttYes, bt1, btN, setsT, wipeT, endT, List.getElem?_cons_zero, List.getElem?_cons_succ, List.set_cons_zero, List.set_cons_succ]
    simp only [lstAt_of hL11]
    refine lc_kinds (P := fun k => True) hL11 k4 (by simp) (fun k hk S' R ex r1 r2 => ?_) fun ls A S12 hls hll ex12 hA hAA => ?_
    · try simp only [tsNx, tsSeq, tsBrk, tsCt, tsDrop, tsRet, tsRetN, tsIf, tsAsg, tgN, tgsNil, tgsCons, tgTup, tgSub, tsFor, tsWhile, tiSeq, tiRng1, tiRng2, tiZip, tb, tv, tc, tac, tan, ttup, tlst, tq, tand, tor, tnot, tife, tandV, torV, tnotV, tneg, tsl, tno, tpt, tcall, tbi, tml, tml0, tmj, tisi, tlRev, tlRng1, tdisp, tps, tlc_eq, tiEnumS, tixK, tiItems, tiVals, ttYes, bt1, btN, setsT, wipeT, endT, List.getElem?_cons_zero, List.getElem?_cons_succ, List.set_cons_zero, List.set_cons_succ]
      simp only [ev_kd0, ev_eqs, eqG_t, kq]
      cases hw : !(k.w == (Str.ofString "fun")) with
      | false => exact r1
      | true => exact r2 trivial
    refine ⟨z4000 (by simp), z4000 (by simp), ?_⟩
    refine nw fun B S13 hB hBB x13 => ?_
    refine st_addl (x13 _ _ hAA) hBB (z4000 (by simp; omega)) (nw fun E3 S14 hE hEE x14 => ?_)
    have f14 := f11.ex (ex12.trans (x13.trans x14))
    have hL14 := x14 _ _ (x13 _ _ (ex12 _ _ hL11))
    obtain ⟨ED3, EC3⟩ := (f11.ex (ex12.trans x13)).dk.neS hE
    clear hAA hBB hA hB hE x13 x14 ex12 hL11 f11
    refine ⟨rfl, st_pickk (ks := ls) (zs := [.num]) f14.dk ED3 EC3 hEE (by simp) (by simp) hll fun one S15 ho f15' => ?_⟩
    have hone : Kg d one := by
      rcases ho with z | z
      · exact kks _ (hls one z).1
      · rw [List.mem_singleton.mp z]; exact .num
    have hone' : Kg (d - 1) one := hone.mono (by omega)
    have f15 := f14.trans f15'
    have hL15 := f15'.kp _ _ LD LC hL14
    clear hEE f15' hL14 f14 hls hll ho
    rw [hv8]
    clear hv8
    -- pairs
    refine seq_cut fun v9 hv9 => ?_
    try simp only [tsNx, tsSeq, tsBrk, tsCt, tsDrop, tsRet, tsRetN, tsIf, tsAsg, tgN, tgsNil, tgsCons, tgTup, tgSub, tsFor, tsWhile, tiSeq, tiRng1, tiRng2, tiZip, tb, tv, tc, tac, tan, ttup, tlst, tq, tand, tor, tnot, tife, tandV, torV, tnotV, tneg, tsl, tno, tpt, tcall, tbi, tml, tml0, tmj, tisi, tlRev, tlRng1, tdisp, tps, tlc_eq, tiEnumS, tixK, tiItems, tiVals, ttYes, bt1, btN, setsT, wipeT, endT, List.getElem?_cons_zero, List.getElem?_cons_succ, List.set_cons_zero, List.set_cons_succ]
    simp only [lstAt_of hL15]
    refine lc_kinds (P := fun k => ∃ a b, k = .pair a b) hL15 k4 (by simp) (fun k hkm S' R ex r1 r2 => ?_) fun ls A S16 hls hll ex16 hA hAA => ?_
    · try simp only [tsNx, tsSeq, tsBrk, tsCt, tsDrop, tsRet, tsRetN, tsIf, tsAsg, tgN, tgsNil, tgsCons, tgTup, tgSub, tsFor, tsWhile, tiSeq, tiRng1, tiRng2, tiZip, tb, tv, tc, tac, tan, ttup, tlst, tq, tand, tor, tnot, tife, tandV, torV, tnotV, tneg, tsl, tno, tpt, tcall, tbi, tml, tml0, tmj, tisi, tlRev, tlRng1, tdisp, tps, tlc_eq, tiEnumS, tixK, tiItems, tiVals, ttYes, bt1, btN, setsT, wipeT, endT, List.getElem?_cons_zero, List.getElem?_cons_succ, List.set_cons_zero, List.set_cons_succ]
      simp only [ev_kd0, ev_eqs, eqG_f, kq]
      cases hw : k.w == (Str.ofString "pair") with
      | false => exact r1
      | true =>
        have r3 := r2 (w_pair hw)
        clear r2
        obtain ⟨a, b, rfl⟩ := w_pair hw
        simp only [Kd.t, ev_sl1]
        refine ⟨kd_pur _, by rw [purs_cons, purs_cons, purs_nil, kd_pur, kd_pur]; rfl, by have := hk.dp; omega, ?_⟩
        simp only [eqG_f]
        cases ([a.t, b.t].any fun z => eqT z kd.t) with
        | false => exact r1
        | true => exact r3
    rw [hv9]
    clear hv9
    refine seq_cut fun v10 hv10 => ?_
    try simp only [tsNx, tsSeq, tsBrk, tsCt, tsDrop, tsRet, tsRetN, tsIf, tsAsg, tgN, tgsNil, tgsCons, tgTup, tgSub, tsFor, tsWhile, tiSeq, tiRng1, tiRng2, tiZip, tb, tv, tc, tac, tan, ttup, tlst, tq, tand, tor, tnot, tife, tandV, torV, tnotV, tneg, tsl, tno, tpt, tcall, tbi, tml, tml0, tmj, tisi, tlRev, tlRng1, tdisp, tps, tlc_eq, tiEnumS, tixK, tiItems, tiVals, ttYes, bt1, btN, setsT, wipeT, endT, List.getElem?_cons_zero, List.getElem?_cons_succ, List.set_cons_zero, List.set_cons_succ]
    refine ⟨z4000 (by simp), z4000 (by simp), ?_⟩
    refine st_lst (by simp) (nw fun B S17 hB hBB x17 => ?_)
    refine st_addl (x17 _ _ hAA) hBB (z4000 (by simp; omega)) (nw fun E4 S18 hE hEE x18 => ?_)
    have f18 := f15.ex (ex16.trans (x17.trans x18))
    obtain ⟨ED4, EC4⟩ := (f15.ex (ex16.trans x17)).dk.neS hE
    clear hBB hA hB hE x17 x18 ex16 hL15 f15
    refine ⟨rfl, st_pickk (ks := ls) (zs := [.pair kd one, .pair one kd]) f18.dk ED4 EC4 hEE (by simp) (by simp) hll fun kp S19 hp f19' => ?_⟩
    obtain ⟨p1, p2, rfl, hpr⟩ : ∃ p1 p2, kp = .pair p1 p2 ∧ Kg (d - 1) (.pair p1 p2) := by
      rcases hp with z | z
      · obtain ⟨h1, p1, p2, rfl⟩ := hls kp z
        exact ⟨p1, p2, rfl, (kks _ h1).mono (by omega)⟩
      · rcases List.mem_cons.mp z with z | z
        · rw [z]; exact ⟨_, _, rfl, kg_pair d1 d6 hk hone⟩
        · rw [List.mem_singleton.mp z]; exact ⟨_, _, rfl, kg_pair d1 d6 hone hk⟩
    have f19 := f18.trans f19'
    clear hEE f19' f18 hls hll hp hAA
    rw [hv10]
    clear hv10
    generalize T.adr A = tA
    -- the dict
    refine seq_cut fun v11 hv11 => ?_
    try simp only [tsNx, tsSeq, tsBrk, tsCt, tsDrop, tsRet, tsRetN, tsIf, tsAsg, tgN, tgsNil, tgsCons, tgTup, tgSub, tsFor, tsWhile, tiSeq, tiRng1, tiRng2, tiZip, tb, tv, tc, tac, tan, ttup, tlst, tq, tand, tor, tnot, tife, tandV, torV, tnotV, tneg, tsl, tno, tpt, tcall, tbi, tml, tml0, tmj, tisi, tlRev, tlRng1, tdisp, tps, tlc_eq, tiEnumS, tixK, tiItems, tiVals, ttYes, bt1, btN, setsT, wipeT, endT, List.getElem?_cons_zero, List.getElem?_cons_succ, List.set_cons_zero, List.set_cons_succ]
    intro F S20 hF u20
    have FS : F ≠ D ∧ F ≠ C := f19.dk.neS hF
    obtain ⟨FD, FC⟩ := FS
    have f20 : Fr D C S S20 := f19.ex fun a o h => u20.get (nn hF h) h
    refine ⟨z4000 (by simp), z4000 (by simp), z4000 (by simp), z4000 (by simp), z4000 (by simp), z4000 (by simp), z4000 (by simp), z4000 (by simp), u20.at_, ?_⟩
    simp only [keysOf, keyT, Option.bind_some, Option.map_some]
    refine ⟨by simp, fun S21 u21 => ?_⟩
    have fr_put : ∀ {S1 S2 : Sto}, Fr D C S S1 → S F = none → (∀ a o, a ≠ F → S1 a = some o → S2 a = some o) → Fr D C S S2 := fun {S1 S2} f hF h => by
      refine ⟨?_, fun a o h1 h2 e => h a o (nn hF e) (f.kp a o h1 h2 e)⟩
      obtain ⟨ne, a1, a2, a3, a4, a5, a6⟩ := f.dk
      exact ⟨ne, a1, a2, a3, h _ _ (Ne.symm FD) a4, h _ _ (Ne.symm FC) a5, a6⟩
    have FSn : S F = none := f19.none g.dk hF
    have f21 : Fr D C S S21 := fr_put f20 FSn fun a o na h => u21.get na h
    have d21 : Fd d S21 F 1 [Str.ofString "if"] := ⟨_, u21.at_, Nat.le_refl 1, fun w hw => by
      rw [List.mem_singleton.mp hw]
      exact ⟨_, valT_putsame (kvs := []), o_if hk'⟩⟩
    clear u21 u20 f20 f19 hF
    rw [hv11]
    clear hv11
    refine seq_cut fun v12 hv12 => ?_
    try simp only [tsNx, tsSeq, tsBrk, tsCt, tsDrop, tsRet, tsRetN, tsIf, tsAsg, tgN, tgsNil, tgsCons, tgTup, tgSub, tsFor, tsWhile, tiSeq, tiRng1, tiRng2, tiZip, tb, tv, tc, tac, tan, ttup, tlst, tq, tand, tor, tnot, tife, tandV, torV, tnotV, tneg, tsl, tno, tpt, tcall, tbi, tml, tml0, tmj, tisi, tlRev, tlRng1, tdisp, tps, tlc_eq, tiEnumS, tixK, tiItems, tiVals, ttYes, bt1, btN, setsT, wipeT, endT, List.getElem?_cons_zero, List.getElem?_cons_succ, List.set_cons_zero, List.set_cons_succ]
    refine st_lst (by simp) (nw fun A S22 hA hAA x22 => ?_)
    have f22 := f21.ex x22
    have d22 := d21.kp (x22 F)
    simp only [Kd.t, ev_t1]
    refine st_eqk' hk ?_
    try simp only [ev_t0, ev_t1, ev_t2, ev_eqs, ev_eqi, ev_intb, ev_inti, ev_add, ev_sub, ev_lt, ev_gt, ev_sl1, ev_in2, ev_lent, ev_isn, Bool.or_false, Bool.or_true, Bool.false_or, Bool.true_or, eqG_f, eqG_t, kq, Bool.not_true, Bool.not_false, if_true, if_false, ite_true, ite_false, reduceIte, s_num_num, s_num_truth, s_num_open, s_num_list, s_num_pair, s_num_either, s_num_left, s_num_right, s_num_thing, s_num_fault, s_num_worth, s_num_table, s_truth_num, s_truth_truth, s_truth_open, s_truth_list, s_truth_pair, s_truth_either, s_truth_left, s_truth_right, s_truth_thing, s_truth_fault, s_truth_worth, s_truth_table, s_open_num, s_open_truth, s_open_open, s_open_list, s_open_pair, s_open_either, s_open_left, s_open_right, s_open_thing, s_open_fault, s_open_worth, s_open_table, s_list_num, s_list_truth, s_list_open, s_list_list, s_list_pair, s_list_either, s_list_left, s_list_right, s_list_thing, s_list_fault, s_list_worth, s_list_table, s_pair_num, s_pair_truth, s_pair_open, s_pair_list, s_pair_pair, s_pair_either, s_pair_left, s_pair_right, s_pair_thing, s_pair_fault, s_pair_worth, s_pair_table, s_either_num, s_either_truth, s_either_open, s_either_list, s_either_pair, s_either_either, s_either_left, s_either_right, s_either_thing, s_either_fault, s_either_worth, s_either_table, s_left_num, s_left_truth, s_left_open, s_left_list, s_left_pair, s_left_either, s_left_left, s_left_right, s_left_thing, s_left_fault, s_left_worth, s_left_table, s_right_num, s_right_truth, s_right_open, s_right_list, s_right_pair, s_right_either, s_right_left, s_right_right, s_right_thing, s_right_fault, s_right_worth, s_right_table, s_thing_num, s_thing_truth, s_thing_open, s_thing_list, s_thing_pair, s_thing_either, s_thing_left, s_thing_right, s_thing_thing, s_thing_fault, s_thing_worth, s_thing_table, s_fault_num, s_fault_truth, s_fault_open, s_fault_list, s_fault_pair, s_fault_either, s_fault_left, s_fault_right, s_fault_thing, s_fault_fault, s_fault_worth, s_fault_table, s_worth_num, s_worth_truth, s_worth_open, s_worth_list, s_worth_pair, s_worth_either, s_worth_left, s_worth_right, s_worth_thing, s_worth_fault, s_worth_worth, s_worth_table, s_table_num, s_table_truth, s_table_open, s_table_list, s_table_pair, s_table_either, s_table_left, s_table_right, s_table_thing, s_table_fault, s_table_worth, s_table_table]
    obtain ⟨z, ez, hz⟩ : ∃ z : T, atI [T.str "second", T.str "first"] (if eqT p1.t kd.t = true then (1 : Int) else 0) = some z ∧ (z = .str "second" ∨ z = .str "first") := by
      cases eqT p1.t kd.t with
      | true => exact ⟨_, at2_1, .inr rfl⟩
      | false => exact ⟨_, at2_0, .inl rfl⟩
    refine st_ixl hAA ez ?_
    refine ⟨z4000 (by simp), z4000 (by simp), z4000 (by simp), ?_⟩
    have hpart : Shp (HPo d) 2 (.tup [z, holeT (.pair p1 p2) []]) := by
      rcases hz with rfl | rfl
      · exact o_second hpr
      · exact o_first hpr
    refine st_fput d22 hpart (by decide) fun S23 k23 d23 => ?_
    have f23 := fr_put f22 FSn k23
    clear d22 d21 f22 f21 hAA hA x22 k23 ez hz
    rw [hv12]
    clear hv12
    refine seq_cut fun v13 hv13 => ?_
    try simp only [tsNx, tsSeq, tsBrk, tsCt, tsDrop, tsRet, tsRetN, tsIf, tsAsg, tgN, tgsNil, tgsCons, tgTup, tgSub, tsFor, tsWhile, tiSeq, tiRng1, tiRng2, tiZip, tb, tv, tc, tac, tan, ttup, tlst, tq, tand, tor, tnot, tife, tandV, torV, tnotV, tneg, tsl, tno, tpt, tcall, tbi, tml, tml0, tmj, tisi, tlRev, tlRng1, tdisp, tps, tlc_eq, tiEnumS, tixK, tiItems, tiVals, ttYes, bt1, btN, setsT, wipeT, endT, List.getElem?_cons_zero, List.getElem?_cons_succ, List.set_cons_zero, List.set_cons_succ]
    simp only [ev_t2]
    refine ⟨z4000 (by simp), z4000 (by simp), z4000 (by simp), ?_⟩
    rw [hv13]
    clear hv13
    refine seq_cut fun v14 hv14 => ?_
    try simp only [tsNx, tsSeq, tsBrk, tsCt, tsDrop, tsRet, tsRetN, tsIf, tsAsg, tgN, tgsNil, tgsCons, tgTup, tgSub, tsFor, tsWhile, tiSeq, tiRng1, tiRng2, tiZip, tb, tv, tc, tac, tan, ttup, tlst, tq, tand, tor, tnot, tife, tandV, torV, tnotV, tneg, tsl, tno, tpt, tcall, tbi, tml, tml0, tmj, tisi, tlRev, tlRng1, tdisp, tps, tlc_eq, tiEnumS, tixK, tiItems, tiVals, ttYes, bt1, btN, setsT, wipeT, endT, List.getElem?_cons_zero, List.getElem?_cons_succ, List.set_cons_zero, List.set_cons_succ]
    simp only [ev_t1]
    refine ⟨z4000 (by simp), z4000 (by simp), z4000 (by simp), ?_⟩
    rw [hv14]
    clear hv14
    refine seq_cut fun v15 hv15 => ?_
    try simp only [tsNx, tsSeq, tsBrk, tsCt, tsDrop, tsRet, tsRetN, tsIf, tsAsg, tgN, tgsNil, tgsCons, tgTup, tgSub, tsFor, tsWhile, tiSeq, tiRng1, tiRng2, tiZip, tb, tv, tc, tac, tan, ttup, tlst, tq, tand, tor, tnot, tife, tandV, torV, tnotV, tneg, tsl, tno, tpt, tcall, tbi, tml, tml0, tmj, tisi, tlRev, tlRng1, tdisp, tps, tlc_eq, tiEnumS, tixK, tiItems, tiVals, ttYes, bt1, btN, setsT, wipeT, endT, List.getElem?_cons_zero, List.getElem?_cons_succ, List.set_cons_zero, List.set_cons_succ]
    refine ⟨z4000 (by simp), z4000 (by simp), z4000 (by simp), ?_⟩
    refine st_fput d23 (o_case hk' hb hx9 hy9) (by decide) fun S24 k24 d24 => ?_
    have f24 := fr_put f23 FSn k24
    clear f23 d23 k24
    rw [hv15]
    clear hv15
    refine seq_cut fun v16 hv16 => ?_
    try simp only [tsNx, tsSeq, tsBrk, tsCt, tsDrop, tsRet, tsRetN, tsIf, tsAsg, tgN, tgsNil, tgsCons, tgTup, tgSub, tsFor, tsWhile, tiSeq, tiRng1, tiRng2, tiZip, tb, tv, tc, tac, tan, ttup, tlst, tq, tand, tor, tnot, tife, tandV, torV, tnotV, tneg, tsl, tno, tpt, tcall, tbi, tml, tml0, tmj, tisi, tlRev, tlRng1, tdisp, tps, tlc_eq, tiEnumS, tixK, tiItems, tiVals, ttYes, bt1, btN, setsT, wipeT, endT, List.getElem?_cons_zero, List.getElem?_cons_succ, List.set_cons_zero, List.set_cons_succ]
    simp only [ev_t1]
    refine ⟨z4000 (by simp), z4000 (by simp), z4000 (by simp), z4000 (by simp), ?_⟩
    rw [hv16]
    clear hv16
    refine seq_cut fun v17 hv17 => ?_
    try simp only [tsNx, tsSeq, tsBrk, tsCt, tsDrop, tsRet, tsRetN, tsIf, tsAsg, tgN, tgsNil, tgsCons, tgTup, tgSub, tsFor, tsWhile, tiSeq, tiRng1, tiRng2, tiZip, tb, tv, tc, tac, tan, ttup, tlst, tq, tand, tor, tnot, tife, tandV, torV, tnotV, tneg, tsl, tno, tpt, tcall, tbi, tml, tml0, tmj, tisi, tlRev, tlRng1, tdisp, tps, tlc_eq, tiEnumS, tixK, tiItems, tiVals, ttYes, bt1, btN, setsT, wipeT, endT, List.getElem?_cons_zero, List.getElem?_cons_succ, List.set_cons_zero, List.set_cons_succ]
    refine ⟨z4000 (by simp), z4000 (by simp), z4000 (by simp), z4000 (by simp), z4000 (by simp), ?_⟩
    refine st_fput d24 (o_fold hk' (hr.mono (by omega)) hx9 hy9) (by decide) fun S25 k25 d25 => ?_
    have f25 := fr_put f24 FSn k25
    clear f24 d24 k25
    rw [hv17]
    clear hv17
    refine seq_cut fun v18 hv18 => ?_
    try simp only [tsNx, tsSeq, tsBrk, tsCt, tsDrop, tsRet, tsRetN, tsIf, tsAsg, tgN, tgsNil, tgsCons, tgTup, tgSub, tsFor, tsWhile, tiSeq, tiRng1, tiRng2, tiZip, tb, tv, tc, tac, tan, ttup, tlst, tq, tand, tor, tnot, tife, tandV, torV, tnotV, tneg, tsl, tno, tpt, tcall, tbi, tml, tml0, tmj, tisi, tlRev, tlRng1, tdisp, tps, tlc_eq, tiEnumS, tixK, tiItems, tiVals, ttYes, bt1, btN, setsT, wipeT, endT, List.getElem?_cons_zero, List.getElem?_cons_succ, List.set_cons_zero, List.set_cons_succ]
    refine ⟨z4000 (by simp), z4000 (by simp), z4000 (by simp), z4000 (by simp), ?_⟩
    rw [hv18]
    clear hv18
    refine seq_cut fun v19 hv19 => ?_
    try simp only [tsNx, tsSeq, tsBrk, tsCt, tsDrop, tsRet, tsRetN, tsIf, tsAsg, tgN, tgsNil, tgsCons, tgTup, tgSub, tsFor, tsWhile, tiSeq, tiRng1, tiRng2, tiZip, tb, tv, tc, tac, tan, ttup, tlst, tq, tand, tor, tnot, tife, tandV, torV, tnotV, tneg, tsl, tno, tpt, tcall, tbi, tml, tml0, tmj, tisi, tlRev, tlRng1, tdisp, tps, tlc_eq, tiEnumS, tixK, tiItems, tiVals, ttYes, bt1, btN, setsT, wipeT, endT, List.getElem?_cons_zero, List.getElem?_cons_succ, List.set_cons_zero, List.set_cons_succ]
    refine st_lst (by simp) (nw fun A S26 hA hAA x26 => ?_)
    have f26 := f25.ex x26
    have d26 := d25.kp (x26 F)
    refine ⟨rfl, D, C, 2, rfl, f26.dk, by decide, by decide, fun n S27 n0 n1 f27 => ?_⟩
    obtain ⟨AD, AC⟩ := f25.dk.neS hA
    have hAA7 := f27.kp _ _ AD AC hAA
    obtain ⟨m, em, hm⟩ : ∃ m : Int, atI [T.int 3, T.int 30] n = some (.int m) ∧ 1 ≤ m ∧ m ≤ 30 := by
      obtain ⟨z, ez, hz, _⟩ := atI_ok (xs := [T.int 3, T.int 30]) n0 (by simp; omega)
      have hz : z = .int 3 ∨ z = .int 30 := by simpa using hz
      rcases hz with rfl | rfl
      · exact ⟨3, ez, by decide, by decide⟩
      · exact ⟨30, ez, by decide, by decide⟩
    refine st_ixl hAA7 em ⟨rfl, D, C, m, rfl, f27.dk, hm.1, by omega, fun e S28 e0 e1 f28 => ?_⟩
    have f29 := f26.trans (f27.trans f28)
    have d29 := d26.kp fun o h => (f27.trans f28).kp _ _ FD FC h
    refine st_add ?_
    clear f25 d25 f26 d26 x26 hA hAA hAA7 f27 f28 em
    rw [hv19]
    clear hv19
    refine seq_cut fun v20 hv20 => ?_
    try simp only [tsNx, tsSeq, tsBrk, tsCt, tsDrop, tsRet, tsRetN, tsIf, tsAsg, tgN, tgsNil, tgsCons, tgTup, tgSub, tsFor, tsWhile, tiSeq, tiRng1, tiRng2, tiZip, tb, tv, tc, tac, tan, ttup, tlst, tq, tand, tor, tnot, tife, tandV, torV, tnotV, tneg, tsl, tno, tpt, tcall, tbi, tml, tml0, tmj, tisi, tlRev, tlRng1, tdisp, tps, tlc_eq, tiEnumS, tixK, tiItems, tiVals, ttYes, bt1, btN, setsT, wipeT, endT, List.getElem?_cons_zero, List.getElem?_cons_succ, List.set_cons_zero, List.set_cons_succ]
    refine ⟨z4000 (by simp), z4000 (by simp), z4000 (by simp), ?_⟩
    refine st_fput d29 (o_rounds (i := 1 + e) (by omega) (by omega) hone' (kg_eith d1 d6 hone hk) hx9) (by decide) fun S30 k30 d30 => ?_
    have f30 := fr_put f29 FSn k30
    clear f29 d29 k30
    rw [hv20]
    clear hv20
    refine seq_cut fun v21 hv21 => ?_
    try simp only [tsNx, tsSeq, tsBrk, tsCt, tsDrop, tsRet, tsRetN, tsIf, tsAsg, tgN, tgsNil, tgsCons, tgTup, tgSub, tsFor, tsWhile, tiSeq, tiRng1, tiRng2, tiZip, tb, tv, tc, tac, tan, ttup, tlst, tq, tand, tor, tnot, tife, tandV, torV, tnotV, tneg, tsl, tno, tpt, tcall, tbi, tml, tml0, tmj, tisi, tlRev, tlRng1, tdisp, tps, tlc_eq, tiEnumS, tixK, tiItems, tiVals, ttYes, bt1, btN, setsT, wipeT, endT, List.getElem?_cons_zero, List.getElem?_cons_succ, List.set_cons_zero, List.set_cons_succ]
    refine ⟨z4000 (by simp), z4000 (by simp), z4000 (by simp), z4000 (by simp), ?_⟩
    rw [hv21]
    clear hv21
    refine seq_cut fun v22 hv22 => ?_
    try simp only [tsNx, tsSeq, tsBrk, tsCt, tsDrop, tsRet, tsRetN, tsIf, tsAsg, tgN, tgsNil, tgsCons, tgTup, tgSub, tsFor, tsWhile, tiSeq, tiRng1, tiRng2, tiZip, tb, tv, tc, tac, tan, ttup, tlst, tq, tand, tor, tnot, tife, tandV, torV, tnotV, tneg, tsl, tno, tpt, tcall, tbi, tml, tml0, tmj, tisi, tlRev, tlRng1, tdisp, tps, tlc_eq, tiEnumS, tixK, tiItems, tiVals, ttYes, bt1, btN, setsT, wipeT, endT, List.getElem?_cons_zero, List.getElem?_cons_succ, List.set_cons_zero, List.set_cons_succ]
    refine ⟨z4000 (by simp), z4000 (by simp), z4000 (by simp), ?_⟩
    refine st_fput d30 (o_call hk' hone' hx9) (by decide) fun S31 k31 d31 => ?_
    have f31 := fr_put f30 FSn k31
    clear f30 d30 k31
    have g31 := g.fr f31
    have lo := g.tl.no
    rw [hv22]
    clear hv22
    refine seq_cut fun v23 hv23 => ?_
    try simp only [tsPar3, tsNx, tsSeq, tsBrk, tsCt, tsDrop, tsRet, tsRetN, tsIf, tsAsg, tgN, tgsNil, tgsCons, tgTup, tgSub, tsFor, tsWhile, tiSeq, tiRng1, tiRng2, tiZip, tb, tv, tc, tac, tan, ttup, tlst, tq, tand, tor, tnot, tife, tandV, torV, tnotV, tneg, tsl, tno, tpt, tcall, tbi, tml, tml0, tmj, tisi, tlRev, tlRng1, tdisp, tps, tlc_eq, tiEnumS, tixK, tiItems, tiVals, ttYes, bt1, btN, setsT, wipeT, endT, List.getElem?_cons_zero, List.getElem?_cons_succ, List.set_cons_zero, List.set_cons_succ]
    refine st_own g31.tl (st_adds (Nat.le_trans (show _ ≤ 9 by rw [str_c]; have := lo.2.1; show own.length + 1 ≤ 9; omega) (by decide)) ?_)
    refine st_own g31.tl (st_adds (Nat.le_trans (show _ ≤ 9 by rw [str_n]; have := lo.2.1; show own.length + 1 ≤ 9; omega) (by decide)) ?_)
    refine st_own g31.tl ?_
    refine ⟨z4000 (by simp), ?_⟩
    have hc9 : low9 (own ++ Str.ofString "c") := by rw [str_c]; exact low_snoc lo (by decide)
    have hn9 : low9 (own ++ Str.ofString "n") := by rw [str_n]; exact low_snoc lo (by decide)
    generalize own ++ Str.ofString "c" = c' at *
    generalize own ++ Str.ofString "n" = n' at *
    rw [hv23]
    clear hv23
    refine seq_cut fun v24 hv24 => ?_
    try simp only [tsNx, tsSeq, tsBrk, tsCt, tsDrop, tsRet, tsRetN, tsIf, tsAsg, tgN, tgsNil, tgsCons, tgTup, tgSub, tsFor, tsWhile, tiSeq, tiRng1, tiRng2, tiZip, tb, tv, tc, tac, tan, ttup, tlst, tq, tand, tor, tnot, tife, tandV, torV, tnotV, tneg, tsl, tno, tpt, tcall, tbi, tml, tml0, tmj, tisi, tlRev, tlRng1, tdisp, tps, tlc_eq, tiEnumS, tixK, tiItems, tiVals, ttYes, bt1, btN, setsT, wipeT, endT, List.getElem?_cons_zero, List.getElem?_cons_succ, List.set_cons_zero, List.set_cons_succ]
    refine st_fget d31 (by simp) fun sif hif => ?_
    refine st_fput d31 hif (by decide) fun S32 k32 d32 => ?_
    have f32 := fr_put f31 FSn k32
    clear f31 d31 k32 g31
    have g32 := g.fr f32
    rw [hv24]
    clear hv24
    refine seq_cut fun v25 hv25 => ?_
    have tail : ∀ (s11 : Option T) (S' : Sto) (m : Nat), Fr D C S S' → Fd d S' F m [Str.ofString "built", Str.ofString "call", Str.ofString "rounds", Str.ofString "fold", Str.ofString "case", Str.ofString "part", Str.ofString "if"] → v25 { nx := fun x S => Q T.non S, rt := Q } [some (T.adr D), some (T.adr tl), some (T.adr kn), some kd.t, some (T.adr L), some (T.tup [T.str (Str.ofString "list"), r.t]), some (T.tup [T.str (Str.ofString "either"), b1.t, b2.t]), some one.t, some tA, some (T.tup [T.str (Str.ofString "pair"), p1.t, p2.t]), some (T.adr F), s11, some (T.tup [T.str (Str.ofString "fun"), T.str x, one.t, T.tup [T.str (Str.ofString "hole"), kd.t, T.tup [T.tup [T.str x, one.t]]]]), some (T.tup [T.str (Str.ofString "hole"), T.tup [T.str (Str.ofString "either"), one.t, kd.t], T.tup [T.tup [T.str x, one.t]]]), some (T.int (1 + e)), some (T.str x), some (T.str y), some (T.str c'), some (T.str n'), some (T.tup [T.str (Str.ofString "open"), T.str own]), none] S' := by
      intro s11 S' m f' d'
      rw [hv25]
      try simp only [tsNx, tsSeq, tsBrk, tsCt, tsDrop, tsRet, tsRetN, tsIf, tsAsg, tgN, tgsNil, tgsCons, tgTup, tgSub, tsFor, tsWhile, tiSeq, tiRng1, tiRng2, tiZip, tb, tv, tc, tac, tan, ttup, tlst, tq, tand, tor, tnot, tife, tandV, torV, tnotV, tneg, tsl, tno, tpt, tcall, tbi, tml, tml0, tmj, tisi, tlRev, tlRng1, tdisp, tps, tlc_eq, tiEnumS, tixK, tiItems, tiVals, ttYes, bt1, btN, setsT, wipeT, endT, List.getElem?_cons_zero, List.getElem?_cons_succ, List.set_cons_zero, List.set_cons_succ]
      refine st_words (g.tl.fr f') fun aw ws w1 w2 haw w3 w4 w5 => ?_
      simp only [lstAt_of haw]
      refine lc_ex (fun i acc => acc.length = i ∧ i ≤ ws.length ∧ ∀ s ∈ acc, Shp (HPo d) 2 s) ⟨rfl, Nat.zero_le _, fun s hs => by cases hs⟩ fun i acc S2 hA ex => ⟨lstAt_of (ex _ _ haw), ?_⟩
      obtain ⟨hl, hi, hs⟩ := hA
      simp only [List.getElem?_map]
      cases hx : ws[i]? with
      | none =>
        have := List.getElem?_eq_none_iff.mp hx
        simp only [Option.map_none]
        intro E hE hEE
        exact q E acc S2 hs (by omega) (by omega) (f'.ex ex) (f'.none g.dk hE) hEE
      | some w =>
        have hlt := (List.getElem?_eq_some_iff.mp hx).1
        have hw := w5 w (List.mem_of_getElem? hx)
        simp only [Option.map_some]
        refine ⟨_, rfl, Nat.lt_of_lt_of_le (show _ < 401 by omega) (by decide), fun Rt Rf r1 r2 => ?_⟩
        try simp only [tsNx, tsSeq, tsBrk, tsCt, tsDrop, tsRet, tsRetN, tsIf, tsAsg, tgN, tgsNil, tgsCons, tgTup, tgSub, tsFor, tsWhile, tiSeq, tiRng1, tiRng2, tiZip, tb, tv, tc, tac, tan, ttup, tlst, tq, tand, tor, tnot, tife, tandV, torV, tnotV, tneg, tsl, tno, tpt, tcall, tbi, tml, tml0, tmj, tisi, tlRev, tlRng1, tdisp, tps, tlc_eq, tiEnumS, tixK, tiItems, tiVals, ttYes, bt1, btN, setsT, wipeT, endT, List.getElem?_cons_zero, List.getElem?_cons_succ, List.set_cons_zero, List.set_cons_succ]
        refine st_fget (d'.kp (ex F)) (by simp only [List.mem_cons, List.not_mem_nil, or_false] at hw ⊢; rcases hw with h | h | h | h | h | h | h <;> simp [h]) fun v hv => ?_
        refine r1 v S2 (fun _ _ e => e) ⟨by rw [List.length_append, hl]; rfl, hlt, fun s hs' => ?_⟩
        rcases List.mem_append.mp hs' with z | z
        · exact hs s z
        · rw [List.mem_singleton.mp z]; exact hv
    try simp only [tsNx, tsSeq, tsBrk, tsCt, tsDrop, tsRet, tsRetN, tsIf, tsAsg, tgN, tgsNil, tgsCons, tgTup, tgSub, tsFor, tsWhile, tiSeq, tiRng1, tiRng2, tiZip, tb, tv, tc, tac, tan, ttup, tlst, tq, tand, tor, tnot, tife, tandV, torV, tnotV, tneg, tsl, tno, tpt, tcall, tbi, tml, tml0, tmj, tisi, tlRev, tlRng1, tdisp, tps, tlc_eq, tiEnumS, tixK, tiItems, tiVals, ttYes, bt1, btN, setsT, wipeT, endT, List.getElem?_cons_zero, List.getElem?_cons_succ, List.set_cons_zero, List.set_cons_succ]
    simp only [ev_kd0, ev_eqs, eqG_f, kq]
    cases hw : kd.w == (Str.ofString "list") with
    | false => exact tail _ _ _ f32 d32
    | true =>
      simp only []
      refine st_known g32.kn g32.kks g32.few fun ms1 M1 S33 _ _ hM1 hMM1 x33 => ?_
      refine st_inK hMM1 fun t1 => ?_
      have f33 := f32.ex x33
      have g33 := g.fr f33
      have d33 := d32.kp (x33 F)
      cases t1 with
      | false => exact tail _ _ _ f33 d33
      | true =>
        simp only []
        refine st_known g33.kn g33.kks g33.few fun ms2 M2 S34 _ _ hM2 hMM2 x34 => ?_
        refine st_inK hMM2 fun t2 => ?_
        have f34 := f33.ex x34
        have g34 := g.fr f34
        have d34 := d33.kp (x34 F)
        cases t2 with
        | false => exact tail _ _ _ f34 d34
        | true =>
          simp only []
          refine ⟨Nat.le_trans hc9.1 (by decide), ?_⟩
          simp only [oLt]
          cases decide ((c'.length : Int) < 9) with
          | false => exact tail _ _ _ f34 d34
          | true =>
            obtain ⟨k, rfl⟩ := w_list hw
            simp only [Kd.t, ev_t1]
            refine ⟨z4000 (by simp), z4000 (by simp), z4000 (by simp), z4000 (by simp), z4000 (by simp), z4000 (by simp), ?_⟩
            refine st_own g34.tl ⟨z4000 (by simp), ?_⟩
            refine st_fput d34 (o_built lo (kg_item hk') (kg_put d1 d6 lo hk) hc9 hn9) (by decide) fun S35 k35 d35 => ?_
            exact tail _ _ _ (fr_put f34 FSn k35) ⟨by
              obtain ⟨kvs, h1, h2, h3⟩ := d35.ex
              exact ⟨kvs, h1, h2, fun w hw => h3 w (List.mem_cons_of_mem _ hw)⟩⟩
  try simp only [tsPar, tsNx, tsSeq, tsBrk, tsCt, tsDrop, tsRet, tsRetN, tsIf, tsAsg, tgN, tgsNil, tgsCons, tgTup, tgSub, tsFor, tsWhile, tiSeq, tiRng1, tiRng2, tiZip, tb, tv, tc, tac, tan, ttup, tlst, tq, tand, tor, tnot, tife, tandV, torV, tnotV, tneg, tsl, tno, tpt, tcall, tbi, tml, tml0, tmj, tisi, tlRev, tlRng1, tdisp, tps, tlc_eq, tiEnumS, tixK, tiItems, tiVals, ttYes, bt1, btN, setsT, wipeT, endT, List.getElem?_cons_zero, List.getElem?_cons_succ, List.set_cons_zero, List.set_cons_succ]
  refine ⟨rfl, D, C, 2, rfl, g.dk, by decide, by decide, fun n S1 n0 n1 f1 => ?_⟩
  try simp only [ev_t0, ev_t1, ev_t2, ev_eqs, ev_eqi, ev_intb, ev_inti, ev_add, ev_sub, ev_lt, ev_gt, ev_sl1, ev_in2, ev_lent, ev_isn, Bool.or_false, Bool.or_true, Bool.false_or, Bool.true_or, eqG_f, eqG_t, kq, Bool.not_true, Bool.not_false, if_true, if_false, ite_true, ite_false, reduceIte, s_num_num, s_num_truth, s_num_open, s_num_list, s_num_pair, s_num_either, s_num_left, s_num_right, s_num_thing, s_num_fault, s_num_worth, s_num_table, s_truth_num, s_truth_truth, s_truth_open, s_truth_list, s_truth_pair, s_truth_either, s_truth_left, s_truth_right, s_truth_thing, s_truth_fault, s_truth_worth, s_truth_table, s_open_num, s_open_truth, s_open_open, s_open_list, s_open_pair, s_open_either, s_open_left, s_open_right, s_open_thing, s_open_fault, s_open_worth, s_open_table, s_list_num, s_list_truth, s_list_open, s_list_list, s_list_pair, s_list_either, s_list_left, s_list_right, s_list_thing, s_list_fault, s_list_worth, s_list_table, s_pair_num, s_pair_truth, s_pair_open, s_pair_list, s_pair_pair, s_pair_either, s_pair_left, s_pair_right, s_pair_thing, s_pair_fault, s_pair_worth, s_pair_table, s_either_num, s_either_truth, s_either_open, s_either_list, s_either_pair, s_either_either, s_either_left, s_either_right, s_either_thing, s_either_fault, s_either_worth, s_either_table, s_left_num, s_left_truth, s_left_open, s_left_list, s_left_pair, s_left_either, s_left_left, s_left_right, s_left_thing, s_left_fault, s_left_worth, s_left_table, s_right_num, s_right_truth, s_right_open, s_right_list, s_right_pair, s_right_either, s_right_left, s_right_right, s_right_thing, s_right_fault, s_right_worth, s_right_table, s_thing_num, s_thing_truth, s_thing_open, s_thing_list, s_thing_pair, s_thing_either, s_thing_left, s_thing_right, s_thing_thing, s_thing_fault, s_thing_worth, s_thing_table, s_fault_num, s_fault_truth, s_fault_open, s_fault_list, s_fault_pair, s_fault_either, s_fault_left, s_fault_right, s_fault_thing, s_fault_fault, s_fault_worth, s_fault_table, s_worth_num, s_worth_truth, s_worth_open, s_worth_list, s_worth_pair, s_worth_either, s_worth_left, s_worth_right, s_worth_thing, s_worth_fault, s_worth_worth, s_worth_table, s_table_num, s_table_truth, s_table_open, s_table_list, s_table_pair, s_table_either, s_table_left, s_table_right, s_table_thing, s_table_fault, s_table_worth, s_table_table]
  cases n == 1 with
  | false => exact rest a b' S1 la lb' f1
  | true =>
    simp only []
    refine st_lst (by simp) (nw fun A S2 hA hAA x2 => ?_)
    have f2 := f1.ex x2
    refine st_names (g.tl.fr f2) fun an2 a2 b2 c2 a21 a22 ha2 la2 lb2 lc2 => ?_
    refine st_sll ha2 ?_
    rw [cut3_2]
    refine nw fun B S3 hB hBB x3 => ?_
    refine st_addl (x3 _ _ hAA) hBB (z4000 (by simp)) (nw fun E S4 hE hEE x4 => ?_)
    have f4 := f2.ex (x3.trans x4)
    obtain ⟨ED, EC⟩ := (f2.ex x3).dk.neS hE
    refine ⟨rfl, D, C, E, _, rfl, f4.dk, ED, EC, hEE, by simp, by simp, fun v S5 hv f5 => ?_⟩
    have hv : v = .str a ∨ v = .str c2 := by simpa using hv
    rcases hv with rfl | rfl
    · exact rest b' a S5 lb' la (f4.trans f5)
    · exact rest b' c2 S5 lb' lc2 (f4.trans f5)
end LAW
set_option Elab.async false
set_option linter.all false
set_option maxRecDepth 100000
set_option maxHeartbeats 1000000
/-! D23: shapes are filled. -/
namespace LAW
open PySem PySem.Spec PyProof.Rows L2 TL
theorem knd_app {d : Int} {ks ns : List (Str × Kd)} (h : Knd d ks) (h2 : Knd d ns) : Knd d (ks ++ ns) := fun p hp => by
  rcases List.mem_append.mp hp with z | z
  · exact h p z
  · exact h2 p z
theorem tup_hole (xs : List T) (h : hd xs) : eqT (.tup (xs.take 1)) (.tup [.str "hole"]) = false := by
  cases xs with
  | nil => rw [List.take_nil, eqT_tup]; exact eqTs_nc
  | cons x xs =>
    rw [show (x :: xs).take 1 = [x] from rfl, eqT_tup, eqTs_cons, eqTs_nil, Bool.and_true]
    cases x with
    | str w => rw [eqT_str]; exact beq_eq_false_iff_ne.mpr h.2
    | _ => first | rfl | (unfold eqT; rfl)
theorem Gen.num {S : Sto} {D C tl kn : Addr} {own : Str} {ks : List (Str × Kd)} {kd : Kd} {d : Int} (g : Gen S D C tl kn own ks kd d) : Gen S D C tl kn own ks .num d := ⟨g.dk, g.tl, g.n1, g.n2, g.kn, g.kks, .num, g.few, g.d6⟩
theorem pb_pur {x : T} (h : Pb x) : x.pur = true := (lit_rl x h.lit).2.2
def PartsR (d : Int) (WF' P : T → Prop) : List Bool → List T → List T → Prop
  | [], [], [] => True
  | true :: bs, p :: ps, t :: ts => (WF' t ∧ (d ≤ -2 → sz t ≤ bud p)) ∧ PartsR d WF' P bs ps ts
  | false :: bs, p :: ps, t :: ts => t = p ∧ PartsR d WF' P bs ps ts
  | _, _, _ => False
theorem PartsR.of {d : Int} {W P : T → Prop} : ∀ {bs : List Bool} {ps ts : List T}, bs.length = ps.length → ts.length = ps.length → (∀ (i : Nat) (t : T), ts[i]? = some t → ∃ b p, bs[i]? = some b ∧ ps[i]? = some p ∧ match b with | true => W t ∧ (d ≤ -2 → LAW.sz t ≤ bud p) | false => t = p) → PartsR d W P bs ps ts
  | [], [], [], _, _, _ => trivial
  | true :: bs, p :: ps, t :: ts, h1, h2, h => by
    obtain ⟨b, q, e1, e2, h3⟩ := h 0 t rfl
    cases e1; cases e2
    exact ⟨h3, PartsR.of (by simpa using h1) (by simpa using h2) fun i u hu => by simpa using h (i + 1) u (by simpa using hu)⟩
  | false :: bs, p :: ps, t :: ts, h1, h2, h => by
    obtain ⟨b, q, e1, e2, h3⟩ := h 0 t rfl
    cases e1; cases e2
    exact ⟨h3, PartsR.of (by simpa using h1) (by simpa using h2) fun i u hu => by simpa using h (i + 1) u (by simpa using hu)⟩
  | [], _ :: _, _, h1, _, _ => by simp at h1
  | _ :: _, [], _, h1, _, _ => by simp at h1
  | [], [], _ :: _, _, h2, _ => by simp at h2
  | _ :: _, _ :: _, [], _, h2, _ => by simp at h2
theorem PartsR.parts {d : Int} {W V : T → Prop} : ∀ {bs : List Bool} {ps ts : List T}, Parts V Pb bs ps → PartsR d W Pb bs ps ts → Parts W Pb bs ts ∧ (d ≤ -2 → szs ts ≤ buds ps) ∧ ts.length = ps.length
  | [], [], [], _, _ => ⟨trivial, fun _ => Nat.le_refl _, rfl⟩
  | true :: bs, p :: ps, t :: ts, h, g => by
    obtain ⟨a, b, c⟩ := PartsR.parts h.2 g.2
    refine ⟨⟨g.1.1, a⟩, fun hd => ?_, by rw [List.length_cons, List.length_cons, c]⟩
    have := g.1.2 hd
    have := b hd
    rw [szs_cons, buds_cons]; omega
  | false :: bs, p :: ps, t :: ts, h, g => by
    obtain ⟨a, b, c⟩ := PartsR.parts h.2 g.2
    obtain ⟨rfl, _⟩ := g
    refine ⟨⟨h.1, a⟩, fun hd => ?_, by rw [List.length_cons, List.length_cons, c]⟩
    have := b hd
    rw [szs_cons, buds_cons, bud_nr _ h.1.nr]; omega
  | [], _ :: _, _, h, _ => h.elim
  | true :: _, [], _, h, _ => h.elim
  | false :: _, [], _, h, _ => h.elim
  | [], [], _ :: _, _, g => g.elim
  | true :: _, _ :: _, [], _, g => g.elim
  | false :: _, _ :: _, [], _, g => g.elim
theorem Parts.at {W P : T → Prop} : ∀ {bs : List Bool} {ps : List T} {i : Nat} {p : T}, Parts W P bs ps → ps[i]? = some p → ∃ b, bs[i]? = some b ∧ (match b with | true => W p | false => P p)
  | [], [], _, _, _, e => by simp at e
  | true :: bs, q :: ps, 0, p, h, e => ⟨true, rfl, by simp at e; rw [← e]; exact h.1⟩
  | false :: bs, q :: ps, 0, p, h, e => ⟨false, rfl, by simp at e; rw [← e]; exact h.1⟩
  | true :: bs, q :: ps, i + 1, p, h, e => Parts.at (i := i) h.2 (by simpa using e)
  | false :: bs, q :: ps, i + 1, p, h, e => Parts.at (i := i) h.2 (by simpa using e)
  | [], _ :: _, _, _, h, _ => h.elim
  | true :: _, [], _, _, h, _ => h.elim
  | false :: _, [], _, _, h, _ => h.elim
theorem Fr.kpx {S S' : Sto} {D C : Addr} (f : Fr D C S S') : Kp (fun a => a = D ∨ a = C) S S' := fun a o h e => f.kp a o (fun z => h (.inl z)) (fun z => h (.inr z)) e
theorem Kp.fr {S S' : Sto} {D C : Addr} (k : Kp (fun a => a = D ∨ a = C) S S') (d : Deck S' D C) : Fr D C S S' := ⟨d, fun a o h1 h2 e => k a o (fun z => z.elim h1 h2) e⟩
theorem Deck.exx {S S' : Sto} {D C : Addr} (d : Deck S D C) (x : Ex S S') : Deck S' D C := by
  obtain ⟨ne, a1, a2, a3, a4, a5, a6⟩ := d
  exact ⟨ne, a1, a2, a3, x _ _ a4, x _ _ a5, a6⟩
theorem Upd.ex {S S' : Sto} {p : Addr} {o : MO} (u : Upd S p o S') (h : S p = none) : Ex S S' := fun a m e => u.get (nn h e) e
theorem Shp.isTup {HP : Kd → List (Str × Kd) → Prop} {j : Nat} {s : T} (h : Shp HP j s) : ∃ xs, s = .tup xs := by
  cases j with
  | zero => obtain ⟨k, ns, rfl, _⟩ := h; exact ⟨_, rfl⟩
  | succ j =>
    rcases h with ⟨k, ns, rfl, _⟩ | ⟨w, sg, ps, rfl, _⟩
    · exact ⟨_, rfl⟩
    · exact ⟨_, rfl⟩
theorem sg_hole {w : Str} {sg : List Bool} (h : signs w = some sg) : w ≠ "hole" := by
  intro z
  rw [z] at h
  exact absurd h (by rw [show signs "hole" = none by decide +kernel]; exact fun z => nomatch z)
end LAW
set_option Elab.async false
set_option linter.all false
set_option maxRecDepth 100000
set_option maxHeartbeats 1000000
/-! D24: shapes are filled: the walk. -/
namespace LAW
open PySem PySem.Spec PyProof.Rows L2 TL
theorem lc_filled {n : Nat} {S1 : Sto} {D C tl kn : Addr} {own : Str} {ks : List (Str × Kd)} {d : Int} {s : T} {Q : T → Sto → Prop} (g : Gen S1 D C tl kn own ks .num d) (xs : List T) (hx : xs.length ≤ 6000) (R : Nat → T → Prop)
    (each : ∀ i x, xs[i]? = some x → ∀ (S' : Sto) (Q' : T → Sto → Prop), Gen S' D C tl kn own ks .num d → (∀ t S'', R i t → Fr D C S' S'' → Q' t S'') → spFilled n [.adr D, .adr tl, .adr kn, x, .int d] S' Q')
    (q : ∀ (ts : List T) (p : Addr) (S' : Sto), ts.length = xs.length → (∀ i t, ts[i]? = some t → R i t) → Fr D C S1 S' → S1 p = none → S' p = some (.lst ts) → Q (.adr p) S') :
    LcB ⟨xs, fun _ => True⟩ (bt1 5) ttYes (tcall 5 (spFilled n) (tac (tv 0) (tac (tv 1) (tac (tv 2) (tac (tv 5) (tac (tv 4) tan)))))) [5] [some (.adr D), some (.adr tl), some (.adr kn), some s, some (.int d), none] Q S1 := by
  refine lc_kp (fun a => a = D ∨ a = C) (fun S' => Deck S' D C) (fun i acc => i ≤ xs.length ∧ acc.length = i ∧ ∀ j t, acc[j]? = some t → R j t) ?_ g.dk ?_ ⟨Nat.zero_le _, rfl, fun j t h => by simp at h⟩ ?_
  · obtain ⟨ne, a1, a2, a3, a4, a5, a6⟩ := g.dk
    rintro a (rfl | rfl) z
    · rw [a4] at z; cases z
    · rw [a5] at z; cases z
  · intro S0 S' p o dk _ hp u
    obtain ⟨pD, pC⟩ := g.dk.neS hp
    obtain ⟨ne, a1, a2, a3, a4, a5, a6⟩ := dk
    exact ⟨ne, a1, a2, a3, u.get (Ne.symm pD) a4, u.get (Ne.symm pC) a5, a6⟩
  · rintro i acc S' ⟨hi, hl, hR⟩ dk kp
    have fr : Fr D C S1 S' := Kp.fr kp dk
    refine ⟨trivial, ?_⟩
    cases hxi : xs[i]? with
    | none =>
      have := List.getElem?_eq_none_iff.mp hxi
      simp only []
      intro E hE hEE
      exact q acc E S' (by omega) hR fr hE hEE
    | some x =>
      have hlt := (List.getElem?_eq_some_iff.mp hxi).1
      simp only []
      refine ⟨_, rfl, Nat.lt_of_lt_of_le (show _ < 6001 by omega) (by decide), fun Rt Rf r1 r2 => ?_⟩
      try simp only [tsNx, tsSeq, tsBrk, tsCt, tsDrop, tsRet, tsRetN, tsIf, tsAsg, tgN, tgsNil, tgsCons, tgTup, tgSub, tsFor, tsWhile, tiSeq, tiRng1, tiRng2, tiZip, tb, tv, tc, tac, tan, ttup, tlst, tq, tand, tor, tnot, tife, tandV, torV, tnotV, tneg, tsl, tno, tpt, tcall, tbi, tml, tml0, tmj, tisi, tlRev, tlRng1, tdisp, tps, tlc_eq, tiEnumS, tixK, tiItems, tiVals, ttYes, bt1, btN, setsT, wipeT, endT, List.getElem?_cons_zero, List.getElem?_cons_succ, List.set_cons_zero, List.set_cons_succ]
      refine ⟨rfl, each i x hxi S' _ (g.fr fr) fun t S'' ht f => r1 t S'' f.kpx f.dk ⟨hlt, by rw [List.length_append, hl]; rfl, fun j u hj => ?_⟩⟩
      rcases Nat.lt_or_ge j acc.length with z | z
      · rw [List.getElem?_append_left z] at hj
        exact hR j u hj
      · rw [List.getElem?_append_right z] at hj
        have : j - acc.length = 0 := by
          have := (List.getElem?_eq_some_iff.mp hj).1
          simp at this; omega
        rw [this] at hj
        simp at hj
        rw [show j = i by omega, ← hj]; exact ht
theorem take1_hole (xs : List T) : eqT (.tup ((T.str (Str.ofString "hole") :: xs).take 1)) (.tup [.str (Str.ofString "hole")]) = true := by
  rw [List.take_succ_cons, List.take_zero, eqT_refl]
  rw [pur_tup, purs_cons, pur_str, purs_nil]; rfl
theorem nrs_mem : ∀ (l : List T), Nrs l → ∀ y ∈ l, Nr y
  | [], _, y, hy => by cases hy
  | z :: l, h, y, hy => by
    rw [nrs_cons] at h
    rcases List.mem_cons.mp hy with e | e
    · rw [e]; exact h.1
    · exact nrs_mem l h.2 y e
theorem lits_mem : ∀ (l : List T), Lits l → ∀ y ∈ l, Lit y
  | [], _, y, hy => by cases hy
  | z :: l, h, y, hy => by
    rw [lits_cons] at h
    rcases List.mem_cons.mp hy with e | e
    · rw [e]; exact h.1
    · exact lits_mem l h.2 y e
theorem szs_mem : ∀ (l : List T), ∀ y ∈ l, sz y ≤ szs l
  | [], y, hy => by cases hy
  | z :: l, y, hy => by
    rw [szs_cons]
    rcases List.mem_cons.mp hy with e | e
    · rw [e]; omega
    · have := szs_mem l y e; omega
theorem Pb.part {xs : List T} (h : Pb (.tup xs)) {i : Nat} {x : T} (e : xs[i]? = some x) : Pb x := by
  have hm := List.mem_of_getElem? e
  obtain ⟨a, b, c, d⟩ := h
  rw [lit_tup] at a
  rw [nr_tup] at b
  rw [sz_tup] at c
  rw [depth_tup] at d
  exact ⟨lits_mem xs a x hm, nrs_mem xs b.2 x hm, by have := szs_mem xs x hm; omega, by have := depth_get e; omega⟩
theorem vc_filled (n : Nat) (ts : List T) (S : Sto) (Q : T → Sto → Prop) (hl : ts.length = 5) (h : spFilled (n + 1) ts S Q) : t_Lfilled n (endT Q) (startT N_Lfilled.length ts) S := by
  obtain ⟨D, C, tl, kn, own, ks, s, d, rfl, g, h⟩ := h
  rw [show startT N_Lfilled.length [T.adr D, .adr tl, .adr kn, s, .int d] = [some (.adr D), some (.adr tl), some (.adr kn), some s, some (.int d), none] from rfl]
  unfold t_Lfilled
  refine seq_cut fun v1 hv1 => ?_
  rcases h with ⟨pb, hd, q⟩ | ⟨m, gg, j, sh, hm, hjm, hkm, q⟩
  · cases s with
    | fl xs => have := pb.lit; rw [lit_fl] at this; exact this.elim
    | adr xs => have := pb.lit; rw [lit_adr] at this; exact this.elim
    | tup xs =>
      try simp only [tsNx, tsSeq, tsBrk, tsCt, tsDrop, tsRet, tsRetN, tsIf, tsAsg, tgN, tgsNil, tgsCons, tgTup, tgSub, tsFor, tsWhile, tiSeq, tiRng1, tiRng2, tiZip, tb, tv, tc, tac, tan, ttup, tlst, tq, tand, tor, tnot, tife, tandV, torV, tnotV, tneg, tsl, tno, tpt, tcall, tbi, tml, tml0, tmj, tisi, tlRev, tlRng1, tdisp, tps, tlc_eq, tiEnumS, tixK, tiItems, tiVals, ttYes, bt1, btN, setsT, wipeT, endT, List.getElem?_cons_zero, List.getElem?_cons_succ, List.set_cons_zero, List.set_cons_succ]
      simp only [tyT, isB_tt]
      try simp only [ev_t0, ev_t1, ev_t2, ev_eqs, ev_eqi, ev_intb, ev_inti, ev_add, ev_sub, ev_lt, ev_gt, ev_sl1, ev_in2, ev_lent, ev_isn, Bool.or_false, Bool.or_true, Bool.false_or, Bool.true_or, eqG_f, eqG_t, kq, Bool.not_true, Bool.not_false, if_true, if_false, ite_true, ite_false, reduceIte, s_num_num, s_num_truth, s_num_open, s_num_list, s_num_pair, s_num_either, s_num_left, s_num_right, s_num_thing, s_num_fault, s_num_worth, s_num_table, s_truth_num, s_truth_truth, s_truth_open, s_truth_list, s_truth_pair, s_truth_either, s_truth_left, s_truth_right, s_truth_thing, s_truth_fault, s_truth_worth, s_truth_table, s_open_num, s_open_truth, s_open_open, s_open_list, s_open_pair, s_open_either, s_open_left, s_open_right, s_open_thing, s_open_fault, s_open_worth, s_open_table, s_list_num, s_list_truth, s_list_open, s_list_list, s_list_pair, s_list_either, s_list_left, s_list_right, s_list_thing, s_list_fault, s_list_worth, s_list_table, s_pair_num, s_pair_truth, s_pair_open, s_pair_list, s_pair_pair, s_pair_either, s_pair_left, s_pair_right, s_pair_thing, s_pair_fault, s_pair_worth, s_pair_table, s_either_num, s_either_truth, s_either_open, s_either_list, s_either_pair, s_either_either, s_either_left, s_either_right, s_either_thing, s_either_fault, s_either_worth, s_either_table, s_left_num, s_left_truth, s_left_open, s_left_list, s_left_pair, s_left_either, s_left_left, s_left_right, s_left_thing, s_left_fault, s_left_worth, s_left_table, s_right_num, s_right_truth, s_right_open, s_right_list, s_right_pair, s_right_either, s_right_left, s_right_right, s_right_thing, s_right_fault, s_right_worth, s_right_table, s_thing_num, s_thing_truth, s_thing_open, s_thing_list, s_thing_pair, s_thing_either, s_thing_left, s_thing_right, s_thing_thing, s_thing_fault, s_thing_worth, s_thing_table, s_fault_num, s_fault_truth, s_fault_open, s_fault_list, s_fault_pair, s_fault_either, s_fault_left, s_fault_right, s_fault_thing, s_fault_fault, s_fault_worth, s_fault_table, s_worth_num, s_worth_truth, s_worth_open, s_worth_list, s_worth_pair, s_worth_either, s_worth_left, s_worth_right, s_worth_thing, s_worth_fault, s_worth_worth, s_worth_table, s_table_num, s_table_truth, s_table_open, s_table_list, s_table_pair, s_table_either, s_table_left, s_table_right, s_table_thing, s_table_fault, s_table_worth, s_table_table]
      rw [hv1]
      refine seq_cut fun v2 hv2 => ?_
      try simp only [tsNx, tsSeq, tsBrk, tsCt, tsDrop, tsRet, tsRetN, tsIf, tsAsg, tgN, tgsNil, tgsCons, tgTup, tgSub, tsFor, tsWhile, tiSeq, tiRng1, tiRng2, tiZip, tb, tv, tc, tac, tan, ttup, tlst, tq, tand, tor, tnot, tife, tandV, torV, tnotV, tneg, tsl, tno, tpt, tcall, tbi, tml, tml0, tmj, tisi, tlRev, tlRng1, tdisp, tps, tlc_eq, tiEnumS, tixK, tiItems, tiVals, ttYes, bt1, btN, setsT, wipeT, endT, List.getElem?_cons_zero, List.getElem?_cons_succ, List.set_cons_zero, List.set_cons_succ]
      have hp := pb_pur pb
      rw [pur_tup] at hp
      have pp := pb
      have hn := pb.nr
      rw [nr_tup] at hn
      have hz := pb.sz
      rw [sz_tup] at hz
      have hzl := szs_len xs
      rw [depth_tup] at hd
      refine st_slt ?_
      rw [cut_to1]
      refine ⟨z4000 (by simp), ?_⟩
      refine st_eq (by rw [pur_tup]; cases xs with
        | nil => exact purs_nil
        | cons y ys => rw [purs_cons, Bool.and_eq_true] at hp; rw [show (y :: ys).take 1 = [y] from rfl, purs_cons, hp.1, purs_nil]; rfl) (by rw [pur_tup, purs_cons, pur_str, purs_nil]; rfl) (by rw [depth_tup (xs := [T.str _]), depths_cons, depth_str, depths_nil]; omega) ?_
      rw [tup_hole xs hn.1]
      try simp only [ev_t0, ev_t1, ev_t2, ev_eqs, ev_eqi, ev_intb, ev_inti, ev_add, ev_sub, ev_lt, ev_gt, ev_sl1, ev_in2, ev_lent, ev_isn, Bool.or_false, Bool.or_true, Bool.false_or, Bool.true_or, eqG_f, eqG_t, kq, Bool.not_true, Bool.not_false, if_true, if_false, ite_true, ite_false, reduceIte, s_num_num, s_num_truth, s_num_open, s_num_list, s_num_pair, s_num_either, s_num_left, s_num_right, s_num_thing, s_num_fault, s_num_worth, s_num_table, s_truth_num, s_truth_truth, s_truth_open, s_truth_list, s_truth_pair, s_truth_either, s_truth_left, s_truth_right, s_truth_thing, s_truth_fault, s_truth_worth, s_truth_table, s_open_num, s_open_truth, s_open_open, s_open_list, s_open_pair, s_open_either, s_open_left, s_open_right, s_open_thing, s_open_fault, s_open_worth, s_open_table, s_list_num, s_list_truth, s_list_open, s_list_list, s_list_pair, s_list_either, s_list_left, s_list_right, s_list_thing, s_list_fault, s_list_worth, s_list_table, s_pair_num, s_pair_truth, s_pair_open, s_pair_list, s_pair_pair, s_pair_either, s_pair_left, s_pair_right, s_pair_thing, s_pair_fault, s_pair_worth, s_pair_table, s_either_num, s_either_truth, s_either_open, s_either_list, s_either_pair, s_either_either, s_either_left, s_either_right, s_either_thing, s_either_fault, s_either_worth, s_either_table, s_left_num, s_left_truth, s_left_open, s_left_list, s_left_pair, s_left_either, s_left_left, s_left_right, s_left_thing, s_left_fault, s_left_worth, s_left_table, s_right_num, s_right_truth, s_right_open, s_right_list, s_right_pair, s_right_either, s_right_left, s_right_right, s_right_thing, s_right_fault, s_right_worth, s_right_table, s_thing_num, s_thing_truth, s_thing_open, s_thing_list, s_thing_pair, s_thing_either, s_thing_left, s_thing_right, s_thing_thing, s_thing_fault, s_thing_worth, s_thing_table, s_fault_num, s_fault_truth, s_fault_open, s_fault_list, s_fault_pair, s_fault_either, s_fault_left, s_fault_right, s_fault_thing, s_fault_fault, s_fault_worth, s_fault_table, s_worth_num, s_worth_truth, s_worth_open, s_worth_list, s_worth_pair, s_worth_either, s_worth_left, s_worth_right, s_worth_thing, s_worth_fault, s_worth_worth, s_worth_table, s_table_num, s_table_truth, s_table_open, s_table_list, s_table_pair, s_table_either, s_table_left, s_table_right, s_table_thing, s_table_fault, s_table_worth, s_table_table]
      rw [hv2]
      try simp only [tsNx, tsSeq, tsBrk, tsCt, tsDrop, tsRet, tsRetN, tsIf, tsAsg, tgN, tgsNil, tgsCons, tgTup, tgSub, tsFor, tsWhile, tiSeq, tiRng1, tiRng2, tiZip, tb, tv, tc, tac, tan, ttup, tlst, tq, tand, tor, tnot, tife, tandV, torV, tnotV, tneg, tsl, tno, tpt, tcall, tbi, tml, tml0, tmj, tisi, tlRev, tlRng1, tdisp, tps, tlc_eq, tiEnumS, tixK, tiItems, tiVals, ttYes, bt1, btN, setsT, wipeT, endT, List.getElem?_cons_zero, List.getElem?_cons_succ, List.set_cons_zero, List.set_cons_succ]
      refine lc_filled g xs (by omega) (fun i t => xs[i]? = some t) (fun i x hx S' Q' g' q' => ?_) fun ts p S' hl hR f hp hpp => ?_
      · have := depth_get hx
        exact ⟨D, C, tl, kn, own, ks, x, d, rfl, g', .inl ⟨pp.part hx, by omega, fun S'' f => q' x S'' hx f⟩⟩
      · refine st_tupl hpp ?_
        have : ts = xs := by
          refine List.ext_getElem? fun i => ?_
          cases e : ts[i]? with
          | none => exact (List.getElem?_eq_none (by have := List.getElem?_eq_none_iff.mp e; omega)).symm
          | some t => exact (hR i t e).symm
        rw [this]
        exact q S' f
    | _ =>
      try simp only [tsNx, tsSeq, tsBrk, tsCt, tsDrop, tsRet, tsRetN, tsIf, tsAsg, tgN, tgsNil, tgsCons, tgTup, tgSub, tsFor, tsWhile, tiSeq, tiRng1, tiRng2, tiZip, tb, tv, tc, tac, tan, ttup, tlst, tq, tand, tor, tnot, tife, tandV, torV, tnotV, tneg, tsl, tno, tpt, tcall, tbi, tml, tml0, tmj, tisi, tlRev, tlRng1, tdisp, tps, tlc_eq, tiEnumS, tixK, tiItems, tiVals, ttYes, bt1, btN, setsT, wipeT, endT, List.getElem?_cons_zero, List.getElem?_cons_succ, List.set_cons_zero, List.set_cons_succ]
      exact q S (Fr.refl g.dk)
  · have hole : ∀ k ns, s = holeT k ns → Hol d m gg k ns → v1 (endT Q) [some (.adr D), some (.adr tl), some (.adr kn), some s, some (.int d), none] S := by
      rintro k ns rfl hh
      rw [hv1]
      clear hv1
      refine seq_cut fun v2 hv2 => ?_
      try simp only [holeT, tsNx, tsSeq, tsBrk, tsCt, tsDrop, tsRet, tsRetN, tsIf, tsAsg, tgN, tgsNil, tgsCons, tgTup, tgSub, tsFor, tsWhile, tiSeq, tiRng1, tiRng2, tiZip, tb, tv, tc, tac, tan, ttup, tlst, tq, tand, tor, tnot, tife, tandV, torV, tnotV, tneg, tsl, tno, tpt, tcall, tbi, tml, tml0, tmj, tisi, tlRev, tlRng1, tdisp, tps, tlc_eq, tiEnumS, tixK, tiItems, tiVals, ttYes, bt1, btN, setsT, wipeT, endT, List.getElem?_cons_zero, List.getElem?_cons_succ, List.set_cons_zero, List.set_cons_succ]
      refine st_slt ?_
      rw [cut_to1]
      refine ⟨z4000 (by simp), ?_⟩
      refine st_eq (by rw [show ∀ (a b c : T), [a, b, c].take 1 = [a] from fun _ _ _ => rfl, pur_tup, purs_cons, pur_str, purs_nil]; rfl) (by rw [pur_tup, purs_cons, pur_str, purs_nil]; rfl) (by rw [depth_tup (xs := [T.str _]), depths_cons, depth_str, depths_nil]; omega) ?_
      rw [take1_hole]
      try simp only [oLst, ev_t0, ev_t1, ev_t2, ev_eqs, ev_eqi, ev_intb, ev_inti, ev_add, ev_sub, ev_lt, ev_gt, ev_sl1, ev_in2, ev_lent, ev_isn, Bool.or_false, Bool.or_true, Bool.false_or, Bool.true_or, eqG_f, eqG_t, kq, Bool.not_true, Bool.not_false, if_true, if_false, ite_true, ite_false, reduceIte, s_num_num, s_num_truth, s_num_open, s_num_list, s_num_pair, s_num_either, s_num_left, s_num_right, s_num_thing, s_num_fault, s_num_worth, s_num_table, s_truth_num, s_truth_truth, s_truth_open, s_truth_list, s_truth_pair, s_truth_either, s_truth_left, s_truth_right, s_truth_thing, s_truth_fault, s_truth_worth, s_truth_table, s_open_num, s_open_truth, s_open_open, s_open_list, s_open_pair, s_open_either, s_open_left, s_open_right, s_open_thing, s_open_fault, s_open_worth, s_open_table, s_list_num, s_list_truth, s_list_open, s_list_list, s_list_pair, s_list_either, s_list_left, s_list_right, s_list_thing, s_list_fault, s_list_worth, s_list_table, s_pair_num, s_pair_truth, s_pair_open, s_pair_list, s_pair_pair, s_pair_either, s_pair_left, s_pair_right, s_pair_thing, s_pair_fault, s_pair_worth, s_pair_table, s_either_num, s_either_truth, s_either_open, s_either_list, s_either_pair, s_either_either, s_either_left, s_either_right, s_either_thing, s_either_fault, s_either_worth, s_either_table, s_left_num, s_left_truth, s_left_open, s_left_list, s_left_pair, s_left_either, s_left_left, s_left_right, s_left_thing, s_left_fault, s_left_worth, s_left_table, s_right_num, s_right_truth, s_right_open, s_right_list, s_right_pair, s_right_either, s_right_left, s_right_right, s_right_thing, s_right_fault, s_right_worth, s_right_table, s_thing_num, s_thing_truth, s_thing_open, s_thing_list, s_thing_pair, s_thing_either, s_thing_left, s_thing_right, s_thing_thing, s_thing_fault, s_thing_worth, s_thing_table, s_fault_num, s_fault_truth, s_fault_open, s_fault_list, s_fault_pair, s_fault_either, s_fault_left, s_fault_right, s_fault_thing, s_fault_fault, s_fault_worth, s_fault_table, s_worth_num, s_worth_truth, s_worth_open, s_worth_list, s_worth_pair, s_worth_either, s_worth_left, s_worth_right, s_worth_thing, s_worth_fault, s_worth_worth, s_worth_table, s_table_num, s_table_truth, s_table_open, s_table_list, s_table_pair, s_table_either, s_table_left, s_table_right, s_table_thing, s_table_fault, s_table_worth, s_table_table]
      refine nw fun A S1 hA hAA x1 => ?_
      refine st_addl (x1 _ _ g.kn) hAA (by rw [List.length_map, List.length_map]; exact Nat.le_trans (show _ ≤ 402 by have := g.few; have := hh.few; omega) (by decide)) (nw fun E S2 hE hEE x2 => ?_)
      have x12 := x1.trans x2
      have f2 := (Fr.refl g.dk).ex x12
      have g2 := g.fr f2
      obtain ⟨ED, EC⟩ := (g.dk.exx x1).neS hE
      have hlv := hh.lv
      refine ⟨rfl, D, C, tl, E, own, ks ++ ns, k, d, rfl, ⟨g2.dk, g2.tl, ED, EC, by rw [hEE, List.map_append], knd_app g.kks hh.kn, hh.kg, by rw [List.length_append]; have := hh.few; omega, g.d6⟩, by omega, by rw [List.length_append]; have := hh.few; omega, fun t S3 ht hz f3 => ?_⟩
      refine q t S3 (WF.mono ht (by have := hh.hg; omega)) (fun z => ?_) (f2.trans f3)
      have := hz z
      rw [bud_hole]; exact this
    have isT : ∃ xs, s = .tup xs := sh.isTup
    obtain ⟨xs, es⟩ := isT
    have go : v1 (endT Q) [some (.adr D), some (.adr tl), some (.adr kn), some s, some (.int d), none] S := by
      cases j with
      | zero =>
        obtain ⟨k, ns, e, hh⟩ := sh
        exact hole k ns e hh
      | succ j =>
        rcases sh with ⟨k, ns, e, hh⟩ | ⟨w, sg, ps, rfl, hw, hp, hr⟩
        · exact hole k ns e hh
        · clear hole
          have h5 := sg_len hw
          have hlen := hp.len
          rw [hv1]
          clear hv1
          refine seq_cut fun v2 hv2 => ?_
          try simp only [tsNx, tsSeq, tsBrk, tsCt, tsDrop, tsRet, tsRetN, tsIf, tsAsg, tgN, tgsNil, tgsCons, tgTup, tgSub, tsFor, tsWhile, tiSeq, tiRng1, tiRng2, tiZip, tb, tv, tc, tac, tan, ttup, tlst, tq, tand, tor, tnot, tife, tandV, torV, tnotV, tneg, tsl, tno, tpt, tcall, tbi, tml, tml0, tmj, tisi, tlRev, tlRng1, tdisp, tps, tlc_eq, tiEnumS, tixK, tiItems, tiVals, ttYes, bt1, btN, setsT, wipeT, endT, List.getElem?_cons_zero, List.getElem?_cons_succ, List.set_cons_zero, List.set_cons_succ]
          refine st_slt ?_
          rw [cut_to1]
          refine ⟨z4000 (by simp), ?_⟩
          refine st_eq (by rw [List.take_succ_cons, List.take_zero, pur_tup, purs_cons, pur_str, purs_nil]; rfl) (by rw [pur_tup, purs_cons, pur_str, purs_nil]; rfl) (by rw [depth_tup (xs := [T.str _]), depths_cons, depth_str, depths_nil]; omega) ?_
          have e0 : eqT (.tup ((T.str w :: ps).take 1)) (.tup [.str (Str.ofString "hole")]) = false := by
            rw [List.take_succ_cons, List.take_zero, eqT_tup, eqTs_cons, eqTs_nil, eqT_str, beq_eq_false_iff_ne.mpr (sg_hole hw)]; rfl
          rw [e0]
          try simp only [ev_t0, ev_t1, ev_t2, ev_eqs, ev_eqi, ev_intb, ev_inti, ev_add, ev_sub, ev_lt, ev_gt, ev_sl1, ev_in2, ev_lent, ev_isn, Bool.or_false, Bool.or_true, Bool.false_or, Bool.true_or, eqG_f, eqG_t, kq, Bool.not_true, Bool.not_false, if_true, if_false, ite_true, ite_false, reduceIte, s_num_num, s_num_truth, s_num_open, s_num_list, s_num_pair, s_num_either, s_num_left, s_num_right, s_num_thing, s_num_fault, s_num_worth, s_num_table, s_truth_num, s_truth_truth, s_truth_open, s_truth_list, s_truth_pair, s_truth_either, s_truth_left, s_truth_right, s_truth_thing, s_truth_fault, s_truth_worth, s_truth_table, s_open_num, s_open_truth, s_open_open, s_open_list, s_open_pair, s_open_either, s_open_left, s_open_right, s_open_thing, s_open_fault, s_open_worth, s_open_table, s_list_num, s_list_truth, s_list_open, s_list_list, s_list_pair, s_list_either, s_list_left, s_list_right, s_list_thing, s_list_fault, s_list_worth, s_list_table, s_pair_num, s_pair_truth, s_pair_open, s_pair_list, s_pair_pair, s_pair_either, s_pair_left, s_pair_right, s_pair_thing, s_pair_fault, s_pair_worth, s_pair_table, s_either_num, s_either_truth, s_either_open, s_either_list, s_either_pair, s_either_either, s_either_left, s_either_right, s_either_thing, s_either_fault, s_either_worth, s_either_table, s_left_num, s_left_truth, s_left_open, s_left_list, s_left_pair, s_left_either, s_left_left, s_left_right, s_left_thing, s_left_fault, s_left_worth, s_left_table, s_right_num, s_right_truth, s_right_open, s_right_list, s_right_pair, s_right_either, s_right_left, s_right_right, s_right_thing, s_right_fault, s_right_worth, s_right_table, s_thing_num, s_thing_truth, s_thing_open, s_thing_list, s_thing_pair, s_thing_either, s_thing_left, s_thing_right, s_thing_thing, s_thing_fault, s_thing_worth, s_thing_table, s_fault_num, s_fault_truth, s_fault_open, s_fault_list, s_fault_pair, s_fault_either, s_fault_left, s_fault_right, s_fault_thing, s_fault_fault, s_fault_worth, s_fault_table, s_worth_num, s_worth_truth, s_worth_open, s_worth_list, s_worth_pair, s_worth_either, s_worth_left, s_worth_right, s_worth_thing, s_worth_fault, s_worth_worth, s_worth_table, s_table_num, s_table_truth, s_table_open, s_table_list, s_table_pair, s_table_either, s_table_left, s_table_right, s_table_thing, s_table_fault, s_table_worth, s_table_table]
          rw [hv2]
          try simp only [tsNx, tsSeq, tsBrk, tsCt, tsDrop, tsRet, tsRetN, tsIf, tsAsg, tgN, tgsNil, tgsCons, tgTup, tgSub, tsFor, tsWhile, tiSeq, tiRng1, tiRng2, tiZip, tb, tv, tc, tac, tan, ttup, tlst, tq, tand, tor, tnot, tife, tandV, torV, tnotV, tneg, tsl, tno, tpt, tcall, tbi, tml, tml0, tmj, tisi, tlRev, tlRng1, tdisp, tps, tlc_eq, tiEnumS, tixK, tiItems, tiVals, ttYes, bt1, btN, setsT, wipeT, endT, List.getElem?_cons_zero, List.getElem?_cons_succ, List.set_cons_zero, List.set_cons_succ]
          refine lc_filled g (T.str w :: ps) (by rw [List.length_cons]; omega) (fun i t => match i with
            | 0 => t = .str w
            | i + 1 => ∃ b p, sg[i]? = some b ∧ ps[i]? = some p ∧ match b with | true => WF (gg + j) t ∧ (d ≤ -2 → sz t ≤ bud p) | false => t = p) (fun i x hx S' Q' g' q' => ?_) fun ts p S' hl hR f hp' hpp => ?_
          · cases i with
            | zero =>
              simp at hx
              subst hx
              exact ⟨D, C, tl, kn, own, ks, _, d, rfl, g', .inl ⟨pb_str (signs_low hw), by rw [depth_str]; omega, fun S'' f => q' _ S'' rfl f⟩⟩
            | succ i =>
              have hx : ps[i]? = some x := by simpa using hx
              obtain ⟨b, hb, hpb⟩ := hp.at hx
              cases b with
              | true => exact ⟨D, C, tl, kn, own, ks, _, d, rfl, g', .inr ⟨m, gg, j, hpb, hm, by omega, hkm, fun t S'' ht hz f => q' _ S'' ⟨true, x, hb, hx, ht, hz⟩ f⟩⟩
              | false => exact ⟨D, C, tl, kn, own, ks, _, d, rfl, g', .inl ⟨hpb, by have := hpb.dp; omega, fun S'' f => q' _ S'' ⟨false, x, hb, hx, rfl⟩ f⟩⟩
          · refine st_tupl hpp ?_
            cases ts with
            | nil => simp at hl
            | cons t0 tr =>
              have e0 : t0 = .str w := hR 0 t0 rfl
              subst e0
              have hl : tr.length = ps.length := by simpa using hl
              have pr : PartsR d (WF (gg + j)) Pb sg ps tr := PartsR.of hlen hl fun i t ht => hR (i + 1) t (by simpa using ht)
              obtain ⟨w1, w2, w3⟩ := PartsR.parts hp pr
              refine q _ S' ⟨w, sg, tr, rfl, hw, w1, fun z => ?_⟩ (fun z => ?_) f
              · obtain ⟨a, r, a0, a1, ep⟩ := hr z
                subst z
                rw [signs_rounds] at hw
                cases hw
                subst ep
                cases tr with
                | nil => simp at hl
                | cons u us => exact ⟨a, us, a0, a1, by rw [pr.1]⟩
              · rw [sz_tup, szs_cons, sz_str, bud_form (sg_hole hw)]
                have := w2 z
                omega
    subst es
    try simp only [tsNx, tsSeq, tsBrk, tsCt, tsDrop, tsRet, tsRetN, tsIf, tsAsg, tgN, tgsNil, tgsCons, tgTup, tgSub, tsFor, tsWhile, tiSeq, tiRng1, tiRng2, tiZip, tb, tv, tc, tac, tan, ttup, tlst, tq, tand, tor, tnot, tife, tandV, torV, tnotV, tneg, tsl, tno, tpt, tcall, tbi, tml, tml0, tmj, tisi, tlRev, tlRng1, tdisp, tps, tlc_eq, tiEnumS, tixK, tiItems, tiVals, ttYes, bt1, btN, setsT, wipeT, endT, List.getElem?_cons_zero, List.getElem?_cons_succ, List.set_cons_zero, List.set_cons_succ]
    simp only [tyT, isB_tt]
    try simp only [ev_t0, ev_t1, ev_t2, ev_eqs, ev_eqi, ev_intb, ev_inti, ev_add, ev_sub, ev_lt, ev_gt, ev_sl1, ev_in2, ev_lent, ev_isn, Bool.or_false, Bool.or_true, Bool.false_or, Bool.true_or, eqG_f, eqG_t, kq, Bool.not_true, Bool.not_false, if_true, if_false, ite_true, ite_false, reduceIte, s_num_num, s_num_truth, s_num_open, s_num_list, s_num_pair, s_num_either, s_num_left, s_num_right, s_num_thing, s_num_fault, s_num_worth, s_num_table, s_truth_num, s_truth_truth, s_truth_open, s_truth_list, s_truth_pair, s_truth_either, s_truth_left, s_truth_right, s_truth_thing, s_truth_fault, s_truth_worth, s_truth_table, s_open_num, s_open_truth, s_open_open, s_open_list, s_open_pair, s_open_either, s_open_left, s_open_right, s_open_thing, s_open_fault, s_open_worth, s_open_table, s_list_num, s_list_truth, s_list_open, s_list_list, s_list_pair, s_list_either, s_list_left, s_list_right, s_list_thing, s_list_fault, s_list_worth, s_list_table, s_pair_num, s_pair_truth, s_pair_open, s_pair_list, s_pair_pair, s_pair_either, s_pair_left, s_pair_right, s_pair_thing, s_pair_fault, s_pair_worth, s_pair_table, s_either_num, s_either_truth, s_either_open, s_either_list, s_either_pair, s_either_either, s_either_left, s_either_right, s_either_thing, s_either_fault, s_either_worth, s_either_table, s_left_num, s_left_truth, s_left_open, s_left_list, s_left_pair, s_left_either, s_left_left, s_left_right, s_left_thing, s_left_fault, s_left_worth, s_left_table, s_right_num, s_right_truth, s_right_open, s_right_list, s_right_pair, s_right_either, s_right_left, s_right_right, s_right_thing, s_right_fault, s_right_worth, s_right_table, s_thing_num, s_thing_truth, s_thing_open, s_thing_list, s_thing_pair, s_thing_either, s_thing_left, s_thing_right, s_thing_thing, s_thing_fault, s_thing_worth, s_thing_table, s_fault_num, s_fault_truth, s_fault_open, s_fault_list, s_fault_pair, s_fault_either, s_fault_left, s_fault_right, s_fault_thing, s_fault_fault, s_fault_worth, s_fault_table, s_worth_num, s_worth_truth, s_worth_open, s_worth_list, s_worth_pair, s_worth_either, s_worth_left, s_worth_right, s_worth_thing, s_worth_fault, s_worth_worth, s_worth_table, s_table_num, s_table_truth, s_table_open, s_table_list, s_table_pair, s_table_either, s_table_left, s_table_right, s_table_thing, s_table_fault, s_table_worth, s_table_table]
    exact go
end LAW
set_option Elab.async false
set_option linter.all false
set_option maxRecDepth 100000
set_option maxHeartbeats 2000000
/-! D25: a term is made. -/
namespace LAW
open PySem PySem.Spec PyProof.Rows L2 TL
theorem if_cut {c : TTT} {t u : TTS} {D : EndsT} {ρ : Rho} {S : Sto} (h : ∀ t' u' : TTS, t' = t → u' = u → tsIf c t' u' D ρ S) : tsIf c t u D ρ S := h t u rfl rfl
theorem kd_m2 : ∀ k : Kd, 2 ≤ k.m
  | .num => Nat.le_refl _ | .tru => Nat.le_refl _ | .opn _ => by show 2 ≤ 3; omega
  | .lst k => by show 2 ≤ k.m + 2; omega
  | .pair a b => by show 2 ≤ a.m + b.m + 2; omega
  | .eith a b => by show 2 ≤ a.m + b.m + 2; omega
  | .fn a b => by show 2 ≤ a.m + b.m + 2; omega
theorem Kg.fine {d : Int} {k : Kd} (h : Kg d k) : Fine k.t := by
  obtain ⟨a, b, c⟩ := lit_rl k.t (kd_ln k h.ok).1
  have := h.dp
  have := h.mle
  rw [kd_sz] at a
  exact ⟨c, by omega, b, by omega⟩
def mD (d : Int) : Nat := 109 + 6 * (d + 2).toNat
def gD (d : Int) : Nat := 22 + 4 * (d + 2).toNat
theorem hol_dn {d : Int} {k : Kd} {ns : List (Str × Kd)} (hd : ¬ d ≤ -2) (h : Kg (d - 1) k) (h2 : Knd (d - 1) ns) (h3 : ns.length ≤ 2) : Hol (d - 1) (mD d) (gD d) k ns := by
  have := h.hle
  refine ⟨h, h2, ?_, ?_, h3⟩
  · unfold lev mD; split <;> omega
  · unfold hgt gD; split <;> omega
theorem lev_up {d : Int} {h n : Nat} (hd : ¬ d ≤ -2) (hn : lev d h ≤ n + 1) : 4 + 1 + mD d ≤ n := by
  unfold lev at hn
  rw [if_neg hd] at hn
  unfold mD; omega
theorem lev_ks {d : Int} {h n : Nat} (hd : ¬ d ≤ -2) (hn : n + 2 * lev d h ≤ 400) : n + 2 + 2 * mD d ≤ 400 := by
  unfold lev at hn
  rw [if_neg hd] at hn
  unfold mD; omega
theorem hgt_up {d : Int} {h : Nat} (hd : ¬ d ≤ -2) : gD d + 4 ≤ hgt d h := by
  unfold hgt gD
  rw [if_neg hd]; omega
/-- a shape that is good to be filled one deep below -/
def Good (n l : Nat) (d : Int) (kd : Kd) (s : T) : Prop := ∃ m g j : Nat, Shp (Hol (d - 1) m g) j s ∧ 33 ≤ m ∧ j + 1 + m ≤ n ∧ l + 2 + 2 * m ≤ 400 ∧ g + j ≤ hgt d kd.h ∧ (d ≤ -2 → bud s ≤ 5 * kd.m)
section
variable {n l : Nat} {d : Int} {kd : Kd} (hn : lev d kd.h ≤ n + 1) (hl : l + 2 * lev d kd.h ≤ 400)
include hn hl
theorem good_name {x : Str} (h : low9 x) : Good n l d kd (.tup [.str "name", .str x]) := by
  have h40 : 40 ≤ lev d kd.h := by unfold lev; split <;> omega
  have hg : 1 ≤ hgt d kd.h := by unfold hgt; split <;> omega
  refine ⟨33, 0, 1, shp_name h, Nat.le_refl _, by omega, by omega, by omega, fun _ => ?_⟩
  rw [bud_form (by decide +kernel)]
  simp only [buds_cons, buds_nil, bud_str]
  have := kd_m2 kd; omega
theorem good_shp {j : Nat} {s : T} (hj : j ≤ 4) (hd : ¬ d ≤ -2) (h : Shp (fun k ns => Kg (d - 1) k ∧ Knd (d - 1) ns ∧ ns.length ≤ 2) j s) : Good n l d kd s := by
  have h1 := lev_up hd hn
  have h2 := lev_ks hd hl
  have h3 := hgt_up (h := kd.h) hd
  exact ⟨mD d, gD d, j, Shp.imp (fun k ns h => hol_dn hd h.1 h.2.1 h.2.2) j s h, by unfold mD; omega, by omega, h2, by omega, fun z => (hd z).elim⟩
theorem good_own {s : T} (h : Shp (fun k ns => Less d k kd ∧ Knd d ns ∧ ns.length ≤ 1) 1 s) (hb : bud s ≤ 5 * kd.m) : Good n l d kd s := by
  by_cases hd : d ≤ -2
  · have e1 : lev d kd.h = 40 + 3 * kd.h := by unfold lev; rw [if_pos hd]
    have e2 : hgt d kd.h = kd.h + 1 := by unfold hgt; rw [if_pos hd]
    refine ⟨37 + 3 * kd.h, kd.h, 1, Shp.imp (fun k ns h => ?_) 1 s h, by omega, by omega, by omega, by omega, fun _ => hb⟩
    have := h.1.lt
    refine ⟨h.1.kg.mono (by omega), h.2.1.mono (by omega), ?_, ?_, by omega⟩
    · unfold lev; rw [if_pos (by omega)]; omega
    · unfold hgt; rw [if_pos (by omega)]; omega
  · exact good_shp hn hl (by decide) hd (Shp.imp (fun k ns h => ⟨h.1.kg.mono (by omega), h.2.1.mono (by omega), by omega⟩) 1 s h)
end
theorem shp_pur {HP : Kd → List (Str × Kd) → Prop} : ∀ (j : Nat) (s : T), Shp HP j s → s.pur = true := by
  have names : ∀ ns : List (Str × Kd), T.purs (ns.map LAW.pairT) = true := by
    intro ns
    induction ns with
    | nil => exact purs_nil
    | cons p r ih => rw [List.map_cons, purs_cons, ih]; unfold LAW.pairT; rw [pur_tup, purs_cons, purs_cons, purs_nil, pur_str, kd_pur]; rfl
  have hol : ∀ k ns, (holeT k ns).pur = true := by
    intro k ns
    unfold holeT
    rw [pur_tup, purs_cons, purs_cons, purs_cons, purs_nil, pur_str, kd_pur, pur_tup, names]; rfl
  have parts : ∀ {W : T → Prop}, (∀ x, W x → x.pur = true) → ∀ (sg : List Bool) (ps : List T), Parts W Pb sg ps → T.purs ps = true := by
    intro W hW sg
    induction sg with
    | nil => intro ps h; cases ps with
      | nil => exact purs_nil
      | cons _ _ => exact h.elim
    | cons b sg ih =>
      intro ps h
      cases ps with
      | nil => cases b <;> exact h.elim
      | cons p ps =>
        cases b with
        | true => rw [purs_cons, hW p h.1, ih ps h.2]; rfl
        | false => rw [purs_cons, pb_pur h.1, ih ps h.2]; rfl
  intro j
  induction j with
  | zero => rintro s ⟨k, ns, rfl, _⟩; exact hol k ns
  | succ j ih =>
    intro s h
    rcases h with ⟨k, ns, rfl, _⟩ | ⟨w, sg, ps, rfl, h1, h2, _⟩
    · exact hol k ns
    · rw [pur_tup, purs_cons, pur_str, parts ih sg ps h2]; rfl
theorem shps_pur {HP : Kd → List (Str × Kd) → Prop} {j : Nat} : ∀ (ss : List T), (∀ s ∈ ss, Shp HP j s) → T.purs ss = true
  | [], _ => purs_nil
  | s :: ss, h => by rw [purs_cons, shp_pur j s (h s List.mem_cons_self), shps_pur ss fun x hx => h x (List.mem_cons_of_mem _ hx)]; rfl
theorem st_reprk {d : Int} {k : Kd} {S : Sto} {Q : T → Sto → Prop} (h : Kg d k) (q : Q (.str (reprT k.t)) S) : oRepr [k.t] S Q := by
  have f := h.fine
  rw [kd_t] at f q ⊢
  exact st_repr f q
theorem cut_mem {xs : List T} {lo hi : Option Int} {x : T} (h : x ∈ cutT xs lo hi) : x ∈ xs := by
  unfold cutT at h
  exact List.mem_of_mem_drop (List.mem_of_mem_take h)
theorem cut_le {xs : List T} {lo hi : Option Int} : (cutT xs lo hi).length ≤ xs.length := by
  unfold cutT
  rw [List.length_take, List.length_drop]; omega
theorem at0 {x : T} {xs : List T} : atI (x :: xs) 0 = some x := by have h : atI (x :: xs) ((0 : Nat) : Int) = some x := atI_nat (by rfl); exact h
theorem ev_le {i j : Int} {S : Sto} {Q : T → Sto → Prop} : oLe (.int i) (.int j) S Q = Q (.bl (decide (i ≤ j))) S := rfl
theorem rep01 (b : Bool) (xs : List T) : (List.replicate (if b = true then (1 : Int) else 0).toNat xs).flatten = if b = true then xs else [] := by
  cases b <;> simp
theorem vc_make (n : Nat) (ts : List T) (S : Sto) (Q : T → Sto → Prop) (hl : ts.length = 5) (h : spMake (n + 1) ts S Q) : t_Lmake n (endT Q) (startT N_Lmake.length ts) S := by
  obtain ⟨D, C, tl, kn, own, ks, kd, d, rfl, g, hn, hks, q⟩ := h
  rw [show startT N_Lmake.length [T.adr D, .adr tl, .adr kn, kd.t, .int d] = [some (.adr D), some (.adr tl), some (.adr kn), some kd.t, some (.int d), none, none, none, none, none, none, none] from rfl]
  have hkg := g.kg
  unfold t_Lmake
  refine seq_cut fun v1 hv1 => ?_
  try simp only [tsNx, tsSeq, tsBrk, tsCt, tsDrop, tsRet, tsRetN, tsIf, tsAsg, tgN, tgsNil, tgsCons, tgTup, tgSub, tsFor, tsWhile, tiSeq, tiRng1, tiRng2, tiZip, tb, tv, tc, tac, tan, ttup, tlst, tq, tand, tor, tnot, tife, tandV, torV, tnotV, tneg, tsl, tno, tpt, tcall, tbi, tml, tml0, tmj, tisi, tlRev, tlRng1, tdisp, tps, tlc_eq, tiEnumS, tixK, tiItems, tiVals, ttYes, bt1, btN, setsT, wipeT, endT, List.getElem?_cons_zero, List.getElem?_cons_succ, List.set_cons_zero, List.set_cons_succ]
  refine st_known g.kn g.kks g.few fun ms M S1 hms hml hM hMM x1 => ?_
  simp only [hMM]
  refine lc_ex (fun i acc => i ≤ ms.length ∧ ∃ xs : List Str, acc = xs.map (fun x => T.tup [.str "name", .str x]) ∧ xs.length ≤ i ∧ ∀ x ∈ xs, low9 x) ⟨Nat.zero_le _, [], rfl, Nat.le_refl _, fun x hx => by cases hx⟩ fun i acc S' hA ex => ⟨ex _ _ hMM, ?_⟩
  obtain ⟨hi, xs, rfl, hxl, hxs⟩ := hA
  rw [List.getElem?_map, List.getElem?_map]
  cases hx : ms[i]? with
  | some p =>
    have hlt := (List.getElem?_eq_some_iff.mp hx).1
    obtain ⟨p1, p2⟩ := hms p (List.mem_of_getElem? hx)
    simp only [Option.map_some]
    refine ⟨_, rfl, Nat.lt_of_lt_of_le (show _ < 401 by rw [List.length_map]; have := g.few; omega) (by decide), fun Rt Rf r1 r2 => ?_⟩
    try simp only [kK, kT, tsNx, tsSeq, tsBrk, tsCt, tsDrop, tsRet, tsRetN, tsIf, tsAsg, tgN, tgsNil, tgsCons, tgTup, tgSub, tsFor, tsWhile, tiSeq, tiRng1, tiRng2, tiZip, tb, tv, tc, tac, tan, ttup, tlst, tq, tand, tor, tnot, tife, tandV, torV, tnotV, tneg, tsl, tno, tpt, tcall, tbi, tml, tml0, tmj, tisi, tlRev, tlRng1, tdisp, tps, tlc_eq, tiEnumS, tixK, tiItems, tiVals, ttYes, bt1, btN, setsT, wipeT, endT, List.getElem?_cons_zero, List.getElem?_cons_succ, List.set_cons_zero, List.set_cons_succ]
    refine st_eqk' hkg ?_
    simp only [eqG_f, kq]
    cases eqT p.2.t kd.t with
    | false => exact r2 S' (fun _ _ e => e) ⟨hlt, xs, rfl, by omega, hxs⟩
    | true =>
      simp only []
      refine ⟨z4000 (by simp), r1 _ S' (fun _ _ e => e) ⟨hlt, xs ++ [p.1], by rw [List.map_append]; rfl, by rw [List.length_append]; simp; omega, fun x hx => ?_⟩⟩
      rcases List.mem_append.mp hx with z | z
      · exact hxs x z
      · rw [List.mem_singleton.mp z]; exact p1
  | none =>
    have hmi := List.getElem?_eq_none_iff.mp hx
    simp only [Option.map_none]
    intro A hA hAA
    have f2 := (Fr.refl g.dk).ex (x1.trans ex)
    obtain ⟨AD, AC⟩ := (g.dk.exx x1).neS hA
    have hx4 : xs.length ≤ 400 := by have := g.few; omega
    clear hx hmi hi hxl hml hms hMM hM
    rw [hv1]
    clear hv1
    refine seq_cut fun v2 hv2 => ?_
    try simp only [tsNx, tsSeq, tsBrk, tsCt, tsDrop, tsRet, tsRetN, tsIf, tsAsg, tgN, tgsNil, tgsCons, tgTup, tgSub, tsFor, tsWhile, tiSeq, tiRng1, tiRng2, tiZip, tb, tv, tc, tac, tan, ttup, tlst, tq, tand, tor, tnot, tife, tandV, torV, tnotV, tneg, tsl, tno, tpt, tcall, tbi, tml, tml0, tmj, tisi, tlRev, tlRng1, tdisp, tps, tlc_eq, tiEnumS, tixK, tiItems, tiVals, ttYes, bt1, btN, setsT, wipeT, endT, List.getElem?_cons_zero, List.getElem?_cons_succ, List.set_cons_zero, List.set_cons_succ]
    refine ⟨rfl, D, C, 12, rfl, f2.dk, by decide, by decide, fun way S2 w0 w1 f2' => ?_⟩
    have hA2 := f2'.kp _ _ AD AC hAA
    have f3 := f2.trans f2'
    have g3 := g.fr f3
    clear hAA f2' f2
    rw [hv2]
    clear hv2
    refine seq_cut fun v3 hv3 => ?_
    -- behind the fault
    have rest : ∀ S3, Ex S2 S3 → v3 (endT Q) [some (.adr D), some (.adr tl), some (.adr kn), some kd.t, some (.int d), some (.adr A), some (.int way), none, none, none, none, none] S3 := by
      intro S3 x3
      have f4 := f3.ex x3
      have g4 := g.fr f4
      have hA3 := x3 _ _ hA2
      rw [hv3]
      clear hv3
      refine seq_cut fun v4 hv4 => ?_
      try simp only [tsNx, tsSeq, tsBrk, tsCt, tsDrop, tsRet, tsRetN, tsIf, tsAsg, tgN, tgsNil, tgsCons, tgTup, tgSub, tsFor, tsWhile, tiSeq, tiRng1, tiRng2, tiZip, tb, tv, tc, tac, tan, ttup, tlst, tq, tand, tor, tnot, tife, tandV, torV, tnotV, tneg, tsl, tno, tpt, tcall, tbi, tml, tml0, tmj, tisi, tlRev, tlRng1, tdisp, tps, tlc_eq, tiEnumS, tixK, tiItems, tiVals, ttYes, bt1, btN, setsT, wipeT, endT, List.getElem?_cons_zero, List.getElem?_cons_succ, List.set_cons_zero, List.set_cons_succ]
      refine ⟨rfl, kn, ks, kd, d, rfl, g4.kn, g4.few, g4.kks, g4.kg, fun B cs S4 hcs hcl x4 hB hBB => ?_⟩
      have hA4 := x4 _ _ hA3
      have f5 := f4.ex x4
      have g5 := g.fr f5
      obtain ⟨BD, BC⟩ := f4.dk.neS hB
      clear hA3 hA2 hB
      rw [hv4]
      clear hv4
      refine seq_cut fun v5 hv5 => if_cut fun t1 u1 ht1 hu1 => ?_
      have fin : ∀ (S' : Sto) (s : T) (k11 : Option T), Fr D C S S' → Good n ks.length d kd s → v5 { nx := fun x S => Q T.non S, rt := Q } [some (.adr D), some (.adr tl), some (.adr kn), some kd.t, some (.int d), some (.adr A), some (.int way), some (.adr B), some s, none, none, k11] S' := by
        rintro S' s k11 f ⟨m, gg, j, h1, h2, h3, h4, h5, h6⟩
        have g' := g.fr f
        rw [hv5]
        try simp only [tsNx, tsSeq, tsBrk, tsCt, tsDrop, tsRet, tsRetN, tsIf, tsAsg, tgN, tgsNil, tgsCons, tgTup, tgSub, tsFor, tsWhile, tiSeq, tiRng1, tiRng2, tiZip, tb, tv, tc, tac, tan, ttup, tlst, tq, tand, tor, tnot, tife, tandV, torV, tnotV, tneg, tsl, tno, tpt, tcall, tbi, tml, tml0, tmj, tisi, tlRev, tlRng1, tdisp, tps, tlc_eq, tiEnumS, tixK, tiItems, tiVals, ttYes, bt1, btN, setsT, wipeT, endT, List.getElem?_cons_zero, List.getElem?_cons_succ, List.set_cons_zero, List.set_cons_succ]
        try simp only [ev_t0, ev_t1, ev_t2, ev_eqs, ev_eqi, ev_intb, ev_inti, ev_add, ev_sub, ev_lt, ev_gt, ev_sl1, ev_in2, ev_lent, ev_isn, Bool.or_false, Bool.or_true, Bool.false_or, Bool.true_or, eqG_f, eqG_t, kq, Bool.not_true, Bool.not_false, if_true, if_false, ite_true, ite_false, reduceIte, s_num_num, s_num_truth, s_num_open, s_num_list, s_num_pair, s_num_either, s_num_left, s_num_right, s_num_thing, s_num_fault, s_num_worth, s_num_table, s_truth_num, s_truth_truth, s_truth_open, s_truth_list, s_truth_pair, s_truth_either, s_truth_left, s_truth_right, s_truth_thing, s_truth_fault, s_truth_worth, s_truth_table, s_open_num, s_open_truth, s_open_open, s_open_list, s_open_pair, s_open_either, s_open_left, s_open_right, s_open_thing, s_open_fault, s_open_worth, s_open_table, s_list_num, s_list_truth, s_list_open, s_list_list, s_list_pair, s_list_either, s_list_left, s_list_right, s_list_thing, s_list_fault, s_list_worth, s_list_table, s_pair_num, s_pair_truth, s_pair_open, s_pair_list, s_pair_pair, s_pair_either, s_pair_left, s_pair_right, s_pair_thing, s_pair_fault, s_pair_worth, s_pair_table, s_either_num, s_either_truth, s_either_open, s_either_list, s_either_pair, s_either_either, s_either_left, s_either_right, s_either_thing, s_either_fault, s_either_worth, s_either_table, s_left_num, s_left_truth, s_left_open, s_left_list, s_left_pair, s_left_either, s_left_left, s_left_right, s_left_thing, s_left_fault, s_left_worth, s_left_table, s_right_num, s_right_truth, s_right_open, s_right_list, s_right_pair, s_right_either, s_right_left, s_right_right, s_right_thing, s_right_fault, s_right_worth, s_right_table, s_thing_num, s_thing_truth, s_thing_open, s_thing_list, s_thing_pair, s_thing_either, s_thing_left, s_thing_right, s_thing_thing, s_thing_fault, s_thing_worth, s_thing_table, s_fault_num, s_fault_truth, s_fault_open, s_fault_list, s_fault_pair, s_fault_either, s_fault_left, s_fault_right, s_fault_thing, s_fault_fault, s_fault_worth, s_fault_table, s_worth_num, s_worth_truth, s_worth_open, s_worth_list, s_worth_pair, s_worth_either, s_worth_left, s_worth_right, s_worth_thing, s_worth_fault, s_worth_worth, s_worth_table, s_table_num, s_table_truth, s_table_open, s_table_list, s_table_pair, s_table_either, s_table_left, s_table_right, s_table_thing, s_table_fault, s_table_worth, s_table_table]
        refine ⟨rfl, D, C, tl, kn, own, ks, s, d - 1, rfl, ⟨g'.dk, g'.tl, g'.n1, g'.n2, g'.kn, g'.kks.mono (by omega), .num, g'.few, by have := g'.d6; omega⟩, .inr ⟨m, gg, j, h1, h2, h3, h4, fun t S'' ht hz f'' => q t S'' (WF.mono ht h5) (fun z => ?_) (f.trans f'')⟩⟩
        have := hz (by omega)
        have := h6 z
        omega
      have br1 : ∀ S', Ex S4 S' → 1 ≤ xs.length → t1 { nx := v5 { nx := fun x S => Q T.non S, rt := Q }, rt := Q } [some (.adr D), some (.adr tl), some (.adr kn), some kd.t, some (.int d), some (.adr A), some (.int way), some (.adr B), none, none, none, none] S' := by
        intro S' x hx1
        have f' := f5.ex x
        rw [ht1]
        try simp only [tsNx, tsSeq, tsBrk, tsCt, tsDrop, tsRet, tsRetN, tsIf, tsAsg, tgN, tgsNil, tgsCons, tgTup, tgSub, tsFor, tsWhile, tiSeq, tiRng1, tiRng2, tiZip, tb, tv, tc, tac, tan, ttup, tlst, tq, tand, tor, tnot, tife, tandV, torV, tnotV, tneg, tsl, tno, tpt, tcall, tbi, tml, tml0, tmj, tisi, tlRev, tlRng1, tdisp, tps, tlc_eq, tiEnumS, tixK, tiItems, tiVals, ttYes, bt1, btN, setsT, wipeT, endT, List.getElem?_cons_zero, List.getElem?_cons_succ, List.set_cons_zero, List.set_cons_succ]
        refine ⟨rfl, D, C, A, _, rfl, f'.dk, AD, AC, x _ _ hA4, by rw [List.length_map]; exact hx1, by rw [List.length_map]; omega, fun v S'' hv f'' => ?_⟩
        obtain ⟨y, hy, rfl⟩ := List.mem_map.mp hv
        exact fin S'' _ _ (f'.trans f'') (good_name hn hks (hxs y hy))
      have br2 : ∀ S', Ex S4 S' → u1 { nx := v5 { nx := fun x S => Q T.non S, rt := Q }, rt := Q } [some (.adr D), some (.adr tl), some (.adr kn), some kd.t, some (.int d), some (.adr A), some (.int way), some (.adr B), none, none, none, none] S' := by
        intro S' x
        have f' := f5.ex x
        have hB' := x _ _ hBB
        rw [hu1]
        clear hu1 br1
        refine if_cut fun t2 u2 ht2 hu2 => ?_
        have br3 : ∀ S'', Ex S' S'' → u2 { nx := v5 { nx := fun x S => Q T.non S, rt := Q }, rt := Q } [some (.adr D), some (.adr tl), some (.adr kn), some kd.t, some (.int d), some (.adr A), some (.int way), some (.adr B), none, none, none, none] S'' := by
          intro S'' x''
          have f'' := f'.ex x''
          have g'' := g.fr f''
          rw [hu2]
          clear hu2 ht2 hB'
          refine if_cut fun t3 u3 ht3 hu3 => ?_
          have own0 : t3 { nx := v5 { nx := fun x S => Q T.non S, rt := Q }, rt := Q } [some (.adr D), some (.adr tl), some (.adr kn), some kd.t, some (.int d), some (.adr A), some (.int way), some (.adr B), none, none, none, none] S'' := by
            rw [ht3]
            try simp only [tsNx, tsSeq, tsBrk, tsCt, tsDrop, tsRet, tsRetN, tsIf, tsAsg, tgN, tgsNil, tgsCons, tgTup, tgSub, tsFor, tsWhile, tiSeq, tiRng1, tiRng2, tiZip, tb, tv, tc, tac, tan, ttup, tlst, tq, tand, tor, tnot, tife, tandV, torV, tnotV, tneg, tsl, tno, tpt, tcall, tbi, tml, tml0, tmj, tisi, tlRev, tlRng1, tdisp, tps, tlc_eq, tiEnumS, tixK, tiItems, tiVals, ttYes, bt1, btN, setsT, wipeT, endT, List.getElem?_cons_zero, List.getElem?_cons_succ, List.set_cons_zero, List.set_cons_succ]
            refine ⟨rfl, D, C, tl, kn, own, ks, kd, d, rfl, g'', fun p s0 ss S5 h1 h2 h3 h4 f5 hp hpp => ?_⟩
            refine st_ixl hpp at0 ?_
            exact fin S5 s0 _ (f''.trans f5) (good_own hn hks h1 h2)
          have both : 1 ≤ d → u3 { nx := v5 { nx := fun x S => Q T.non S, rt := Q }, rt := Q } [some (.adr D), some (.adr tl), some (.adr kn), some kd.t, some (.int d), some (.adr A), some (.int way), some (.adr B), none, none, none, none] S'' := by
            intro d1
            rw [hu3]
            clear own0 ht3 hu3
            refine seq_cut fun w1 hw1 => ?_
            try simp only [tsNx, tsSeq, tsBrk, tsCt, tsDrop, tsRet, tsRetN, tsIf, tsAsg, tgN, tgsNil, tgsCons, tgTup, tgSub, tsFor, tsWhile, tiSeq, tiRng1, tiRng2, tiZip, tb, tv, tc, tac, tan, ttup, tlst, tq, tand, tor, tnot, tife, tandV, torV, tnotV, tneg, tsl, tno, tpt, tcall, tbi, tml, tml0, tmj, tisi, tlRev, tlRng1, tdisp, tps, tlc_eq, tiEnumS, tixK, tiItems, tiVals, ttYes, bt1, btN, setsT, wipeT, endT, List.getElem?_cons_zero, List.getElem?_cons_succ, List.set_cons_zero, List.set_cons_succ]
            refine ⟨rfl, D, C, tl, kn, own, ks, kd, d, rfl, g'', fun p s0 ss S5 h1 h2 h3 h4 f5 hp hpp => ?_⟩
            try simp only [ev_t0, ev_t1, ev_t2, ev_eqs, ev_eqi, ev_intb, ev_inti, ev_add, ev_sub, ev_lt, ev_gt, ev_sl1, ev_in2, ev_lent, ev_isn, Bool.or_false, Bool.or_true, Bool.false_or, Bool.true_or, eqG_f, eqG_t, kq, Bool.not_true, Bool.not_false, if_true, if_false, ite_true, ite_false, reduceIte, s_num_num, s_num_truth, s_num_open, s_num_list, s_num_pair, s_num_either, s_num_left, s_num_right, s_num_thing, s_num_fault, s_num_worth, s_num_table, s_truth_num, s_truth_truth, s_truth_open, s_truth_list, s_truth_pair, s_truth_either, s_truth_left, s_truth_right, s_truth_thing, s_truth_fault, s_truth_worth, s_truth_table, s_open_num, s_open_truth, s_open_open, s_open_list, s_open_pair, s_open_either, s_open_left, s_open_right, s_open_thing, s_open_fault, s_open_worth, s_open_table, s_list_num, s_list_truth, s_list_open, s_list_list, s_list_pair, s_list_either, s_list_left, s_list_right, s_list_thing, s_list_fault, s_list_worth, s_list_table, s_pair_num, s_pair_truth, s_pair_open, s_pair_list, s_pair_pair, s_pair_either, s_pair_left, s_pair_right, s_pair_thing, s_pair_fault, s_pair_worth, s_pair_table, s_either_num, s_either_truth, s_either_open, s_either_list, s_either_pair, s_either_either, s_either_left, s_either_right, s_either_thing, s_either_fault, s_either_worth, s_either_table, s_left_num, s_left_truth, s_left_open, s_left_list, s_left_pair, s_left_either, s_left_left, s_left_right, s_left_thing, s_left_fault, s_left_worth, s_left_table, s_right_num, s_right_truth, s_right_open, s_right_list, s_right_pair, s_right_either, s_right_left, s_right_right, s_right_thing, s_right_fault, s_right_worth, s_right_table, s_thing_num, s_thing_truth, s_thing_open, s_thing_list, s_thing_pair, s_thing_either, s_thing_left, s_thing_right, s_thing_thing, s_thing_fault, s_thing_worth, s_thing_table, s_fault_num, s_fault_truth, s_fault_open, s_fault_list, s_fault_pair, s_fault_either, s_fault_left, s_fault_right, s_fault_thing, s_fault_fault, s_fault_worth, s_fault_table, s_worth_num, s_worth_truth, s_worth_open, s_worth_list, s_worth_pair, s_worth_either, s_worth_left, s_worth_right, s_worth_thing, s_worth_fault, s_worth_worth, s_worth_table, s_table_num, s_table_truth, s_table_open, s_table_list, s_table_pair, s_table_either, s_table_left, s_table_right, s_table_thing, s_table_fault, s_table_worth, s_table_table]
            refine st_sll hpp (nw fun p2 S6 hp2 hpp2 x6 => ?_)
            have f6 := (f''.trans f5).ex x6
            simp only [ev_kd0, ev_eqs, eqG_t, ev_intb]
            have hc := cut_le (xs := s0 :: ss) (lo := some (-2)) (hi := none)
            rw [List.length_cons] at hc
            have hcm : ∀ y ∈ cutT (s0 :: ss) (some (-2)) none, Shp (fun k ns => Kg (d - 1) k ∧ Knd (d - 1) ns ∧ ns.length ≤ 2) 1 y := by
              intro y hy
              rcases List.mem_cons.mp (cut_mem hy) with z | z
              · rw [z]; exact Shp.imp (fun k ns h => ⟨h.1.kg.mono (by omega), h.2.1.mono (by omega), by omega⟩) 1 _ h1
              · exact Shp.imp (fun k ns h => ⟨h.1.mono (by omega), h.2.1.mono (by omega), by omega⟩) 1 _ (h3 y z)
            generalize cutT (s0 :: ss) (some (-2)) none = cs' at *
            refine st_mull hpp2 (by split <;> decide) (by split <;> decide) (by split <;> simp <;> exact z4000 (by omega)) (nw fun p3 S7 hp3 hpp3 x7 => ?_)
            rw [rep01] at hpp3
            have f7 := f6.ex x7
            have g7 := g.fr f7
            have hcs : ∃ cs'' : List T, (if (!kd.w == (Str.ofString "open")) = true then cs' else []) = cs'' ∧ cs''.length ≤ 501 ∧ ∀ y ∈ cs'', Shp (fun k ns => Kg (d - 1) k ∧ Knd (d - 1) ns ∧ ns.length ≤ 2) 1 y := by
              refine ⟨_, rfl, ?_, ?_⟩
              · split
                · omega
                · simp
              · split
                · exact hcm
                · intro y hy; cases hy
            obtain ⟨cs'', ecs, hcl'', hcm''⟩ := hcs
            rw [ecs] at hpp3
            obtain ⟨p3D, p3C⟩ := f6.dk.neS hp3
            clear hpp2 hpp hcm hc ecs
            rw [hw1]
            try simp only [tsNx, tsSeq, tsBrk, tsCt, tsDrop, tsRet, tsRetN, tsIf, tsAsg, tgN, tgsNil, tgsCons, tgTup, tgSub, tsFor, tsWhile, tiSeq, tiRng1, tiRng2, tiZip, tb, tv, tc, tac, tan, ttup, tlst, tq, tand, tor, tnot, tife, tandV, torV, tnotV, tneg, tsl, tno, tpt, tcall, tbi, tml, tml0, tmj, tisi, tlRev, tlRng1, tdisp, tps, tlc_eq, tiEnumS, tixK, tiItems, tiVals, ttYes, bt1, btN, setsT, wipeT, endT, List.getElem?_cons_zero, List.getElem?_cons_succ, List.set_cons_zero, List.set_cons_succ]
            refine ⟨rfl, D, C, tl, kn, own, ks, kd, d, rfl, g7, d1, fun p4 ss4 S8 h41 h42 h43 f8 hp4 hpp4 => ?_⟩
            have f78 := f7.trans f8
            refine st_addl (f8.kp _ _ p3D p3C hpp3) hpp4 (z4000 (by omega)) (nw fun p5 S9 hp5 hpp5 x9 => ?_)
            have f9 := f78.ex x9
            obtain ⟨p5D, p5C⟩ := f78.dk.neS hp5
            refine ⟨rfl, D, C, p5, _, rfl, f9.dk, p5D, p5C, hpp5, by rw [List.length_append]; omega, by rw [List.length_append]; omega, fun v S10 hv f10 => ?_⟩
            refine fin S10 v _ (f9.trans f10) ?_
            rcases List.mem_append.mp hv with z | z
            · exact good_shp hn hks (j := 1) (by decide) (by omega) (hcm'' v z)
            · exact good_shp hn hks (j := 2) (by decide) (by omega) (h41 v z)
          clear ht3 hu3
          try simp only [tsNx, tsSeq, tsBrk, tsCt, tsDrop, tsRet, tsRetN, tsIf, tsAsg, tgN, tgsNil, tgsCons, tgTup, tgSub, tsFor, tsWhile, tiSeq, tiRng1, tiRng2, tiZip, tb, tv, tc, tac, tan, ttup, tlst, tq, tand, tor, tnot, tife, tandV, torV, tnotV, tneg, tsl, tno, tpt, tcall, tbi, tml, tml0, tmj, tisi, tlRev, tlRng1, tdisp, tps, tlc_eq, tiEnumS, tixK, tiItems, tiVals, ttYes, bt1, btN, setsT, wipeT, endT, List.getElem?_cons_zero, List.getElem?_cons_succ, List.set_cons_zero, List.set_cons_succ]
          try simp only [ev_le, ev_t0, ev_t1, ev_t2, ev_eqs, ev_eqi, ev_intb, ev_inti, ev_add, ev_sub, ev_lt, ev_gt, ev_sl1, ev_in2, ev_lent, ev_isn, Bool.or_false, Bool.or_true, Bool.false_or, Bool.true_or, eqG_f, eqG_t, kq, Bool.not_true, Bool.not_false, if_true, if_false, ite_true, ite_false, reduceIte, s_num_num, s_num_truth, s_num_open, s_num_list, s_num_pair, s_num_either, s_num_left, s_num_right, s_num_thing, s_num_fault, s_num_worth, s_num_table, s_truth_num, s_truth_truth, s_truth_open, s_truth_list, s_truth_pair, s_truth_either, s_truth_left, s_truth_right, s_truth_thing, s_truth_fault, s_truth_worth, s_truth_table, s_open_num, s_open_truth, s_open_open, s_open_list, s_open_pair, s_open_either, s_open_left, s_open_right, s_open_thing, s_open_fault, s_open_worth, s_open_table, s_list_num, s_list_truth, s_list_open, s_list_list, s_list_pair, s_list_either, s_list_left, s_list_right, s_list_thing, s_list_fault, s_list_worth, s_list_table, s_pair_num, s_pair_truth, s_pair_open, s_pair_list, s_pair_pair, s_pair_either, s_pair_left, s_pair_right, s_pair_thing, s_pair_fault, s_pair_worth, s_pair_table, s_either_num, s_either_truth, s_either_open, s_either_list, s_either_pair, s_either_either, s_either_left, s_either_right, s_either_thing, s_either_fault, s_either_worth, s_either_table, s_left_num, s_left_truth, s_left_open, s_left_list, s_left_pair, s_left_either, s_left_left, s_left_right, s_left_thing, s_left_fault, s_left_worth, s_left_table, s_right_num, s_right_truth, s_right_open, s_right_list, s_right_pair, s_right_either, s_right_left, s_right_right, s_right_thing, s_right_fault, s_right_worth, s_right_table, s_thing_num, s_thing_truth, s_thing_open, s_thing_list, s_thing_pair, s_thing_either, s_thing_left, s_thing_right, s_thing_thing, s_thing_fault, s_thing_worth, s_thing_table, s_fault_num, s_fault_truth, s_fault_open, s_fault_list, s_fault_pair, s_fault_either, s_fault_left, s_fault_right, s_fault_thing, s_fault_fault, s_fault_worth, s_fault_table, s_worth_num, s_worth_truth, s_worth_open, s_worth_list, s_worth_pair, s_worth_either, s_worth_left, s_worth_right, s_worth_thing, s_worth_fault, s_worth_worth, s_worth_table, s_table_num, s_table_truth, s_table_open, s_table_list, s_table_pair, s_table_either, s_table_left, s_table_right, s_table_thing, s_table_fault, s_table_worth, s_table_table]
          cases hd0 : decide (d ≤ 0) with
          | true => exact own0
          | false =>
            have d1 : 1 ≤ d := by have := of_decide_eq_false hd0; omega
            simp only [ev_kd0, ev_eqs, eqG_f]
            cases hf : kd.w == (Str.ofString "fun") with
            | true => exact own0
            | false =>
              simp only []
              refine st_reprk hkg ?_
              refine ⟨Nat.le_trans hkg.fine.rl (by decide), ?_⟩
              try simp only [ev_t0, ev_t1, ev_t2, ev_eqs, ev_eqi, ev_intb, ev_inti, ev_add, ev_sub, ev_lt, ev_gt, ev_sl1, ev_in2, ev_lent, ev_isn, Bool.or_false, Bool.or_true, Bool.false_or, Bool.true_or, eqG_f, eqG_t, kq, Bool.not_true, Bool.not_false, if_true, if_false, ite_true, ite_false, reduceIte, s_num_num, s_num_truth, s_num_open, s_num_list, s_num_pair, s_num_either, s_num_left, s_num_right, s_num_thing, s_num_fault, s_num_worth, s_num_table, s_truth_num, s_truth_truth, s_truth_open, s_truth_list, s_truth_pair, s_truth_either, s_truth_left, s_truth_right, s_truth_thing, s_truth_fault, s_truth_worth, s_truth_table, s_open_num, s_open_truth, s_open_open, s_open_list, s_open_pair, s_open_either, s_open_left, s_open_right, s_open_thing, s_open_fault, s_open_worth, s_open_table, s_list_num, s_list_truth, s_list_open, s_list_list, s_list_pair, s_list_either, s_list_left, s_list_right, s_list_thing, s_list_fault, s_list_worth, s_list_table, s_pair_num, s_pair_truth, s_pair_open, s_pair_list, s_pair_pair, s_pair_either, s_pair_left, s_pair_right, s_pair_thing, s_pair_fault, s_pair_worth, s_pair_table, s_either_num, s_either_truth, s_either_open, s_either_list, s_either_pair, s_either_either, s_either_left, s_either_right, s_either_thing, s_either_fault, s_either_worth, s_either_table, s_left_num, s_left_truth, s_left_open, s_left_list, s_left_pair, s_left_either, s_left_left, s_left_right, s_left_thing, s_left_fault, s_left_worth, s_left_table, s_right_num, s_right_truth, s_right_open, s_right_list, s_right_pair, s_right_either, s_right_left, s_right_right, s_right_thing, s_right_fault, s_right_worth, s_right_table, s_thing_num, s_thing_truth, s_thing_open, s_thing_list, s_thing_pair, s_thing_either, s_thing_left, s_thing_right, s_thing_thing, s_thing_fault, s_thing_worth, s_thing_table, s_fault_num, s_fault_truth, s_fault_open, s_fault_list, s_fault_pair, s_fault_either, s_fault_left, s_fault_right, s_fault_thing, s_fault_fault, s_fault_worth, s_fault_table, s_worth_num, s_worth_truth, s_worth_open, s_worth_list, s_worth_pair, s_worth_either, s_worth_left, s_worth_right, s_worth_thing, s_worth_fault, s_worth_worth, s_worth_table, s_table_num, s_table_truth, s_table_open, s_table_list, s_table_pair, s_table_either, s_table_left, s_table_right, s_table_thing, s_table_fault, s_table_worth, s_table_table]
              cases decide ((200 : Int) < ((reprT kd.t).length : Int)) with
              | true => exact own0
              | false => exact both d1
        have br4 : ∀ S'', Ex S' S'' → 1 ≤ cs.length → ¬ d ≤ -2 → t2 { nx := v5 { nx := fun x S => Q T.non S, rt := Q }, rt := Q } [some (.adr D), some (.adr tl), some (.adr kn), some kd.t, some (.int d), some (.adr A), some (.int way), some (.adr B), none, none, none, none] S'' := by
          intro S'' x'' hc1 hd
          have f'' := f'.ex x''
          rw [ht2]
          try simp only [tsNx, tsSeq, tsBrk, tsCt, tsDrop, tsRet, tsRetN, tsIf, tsAsg, tgN, tgsNil, tgsCons, tgTup, tgSub, tsFor, tsWhile, tiSeq, tiRng1, tiRng2, tiZip, tb, tv, tc, tac, tan, ttup, tlst, tq, tand, tor, tnot, tife, tandV, torV, tnotV, tneg, tsl, tno, tpt, tcall, tbi, tml, tml0, tmj, tisi, tlRev, tlRng1, tdisp, tps, tlc_eq, tiEnumS, tixK, tiItems, tiVals, ttYes, bt1, btN, setsT, wipeT, endT, List.getElem?_cons_zero, List.getElem?_cons_succ, List.set_cons_zero, List.set_cons_succ]
          refine ⟨rfl, D, C, B, _, rfl, f''.dk, BD, BC, x'' _ _ hB', hc1, by omega, fun v S3 hv f3 => ?_⟩
          exact fin S3 v _ (f''.trans f3) (good_shp hn hks (j := 4) (by decide) hd (Shp.imp (fun k ns h => ⟨h.1.mono (by omega), by rw [h.2]; exact knd_nil, by rw [h.2]; simp⟩) 4 v (hcs v hv)))
        clear ht2 hu2
        try simp only [tsNx, tsSeq, tsBrk, tsCt, tsDrop, tsRet, tsRetN, tsIf, tsAsg, tgN, tgsNil, tgsCons, tgTup, tgSub, tsFor, tsWhile, tiSeq, tiRng1, tiRng2, tiZip, tb, tv, tc, tac, tan, ttup, tlst, tq, tand, tor, tnot, tife, tandV, torV, tnotV, tneg, tsl, tno, tpt, tcall, tbi, tml, tml0, tmj, tisi, tlRev, tlRng1, tdisp, tps, tlc_eq, tiEnumS, tixK, tiItems, tiVals, ttYes, bt1, btN, setsT, wipeT, endT, List.getElem?_cons_zero, List.getElem?_cons_succ, List.set_cons_zero, List.set_cons_succ]
        refine st_nil (nw fun E S5 hE hEE x5 => ?_)
        refine st_eql (x5 _ _ hB') hEE (shps_pur cs hcs) purs_nil (by rw [depths_nil]; omega) ?_
        cases cs with
        | nil =>
          rw [eqTs_nil]
          exact br3 S5 x5
        | cons c0 cr =>
          rw [eqTs_cn]
          try simp only [ev_t0, ev_t1, ev_t2, ev_eqs, ev_eqi, ev_intb, ev_inti, ev_add, ev_sub, ev_lt, ev_gt, ev_sl1, ev_in2, ev_lent, ev_isn, Bool.or_false, Bool.or_true, Bool.false_or, Bool.true_or, eqG_f, eqG_t, kq, Bool.not_true, Bool.not_false, if_true, if_false, ite_true, ite_false, reduceIte, s_num_num, s_num_truth, s_num_open, s_num_list, s_num_pair, s_num_either, s_num_left, s_num_right, s_num_thing, s_num_fault, s_num_worth, s_num_table, s_truth_num, s_truth_truth, s_truth_open, s_truth_list, s_truth_pair, s_truth_either, s_truth_left, s_truth_right, s_truth_thing, s_truth_fault, s_truth_worth, s_truth_table, s_open_num, s_open_truth, s_open_open, s_open_list, s_open_pair, s_open_either, s_open_left, s_open_right, s_open_thing, s_open_fault, s_open_worth, s_open_table, s_list_num, s_list_truth, s_list_open, s_list_list, s_list_pair, s_list_either, s_list_left, s_list_right, s_list_thing, s_list_fault, s_list_worth, s_list_table, s_pair_num, s_pair_truth, s_pair_open, s_pair_list, s_pair_pair, s_pair_either, s_pair_left, s_pair_right, s_pair_thing, s_pair_fault, s_pair_worth, s_pair_table, s_either_num, s_either_truth, s_either_open, s_either_list, s_either_pair, s_either_either, s_either_left, s_either_right, s_either_thing, s_either_fault, s_either_worth, s_either_table, s_left_num, s_left_truth, s_left_open, s_left_list, s_left_pair, s_left_either, s_left_left, s_left_right, s_left_thing, s_left_fault, s_left_worth, s_left_table, s_right_num, s_right_truth, s_right_open, s_right_list, s_right_pair, s_right_either, s_right_left, s_right_right, s_right_thing, s_right_fault, s_right_worth, s_right_table, s_thing_num, s_thing_truth, s_thing_open, s_thing_list, s_thing_pair, s_thing_either, s_thing_left, s_thing_right, s_thing_thing, s_thing_fault, s_thing_worth, s_thing_table, s_fault_num, s_fault_truth, s_fault_open, s_fault_list, s_fault_pair, s_fault_either, s_fault_left, s_fault_right, s_fault_thing, s_fault_fault, s_fault_worth, s_fault_table, s_worth_num, s_worth_truth, s_worth_open, s_worth_list, s_worth_pair, s_worth_either, s_worth_left, s_worth_right, s_worth_thing, s_worth_fault, s_worth_worth, s_worth_table, s_table_num, s_table_truth, s_table_open, s_table_list, s_table_pair, s_table_either, s_table_left, s_table_right, s_table_thing, s_table_fault, s_table_worth, s_table_table]
          cases decide (way < 8) with
          | false => exact br3 S5 x5
          | true =>
            simp only []
            cases hd2 : decide (-2 < d) with
            | false => exact br3 S5 x5
            | true => exact br4 S5 x5 (by simp) (by have := of_decide_eq_true hd2; omega)
      clear ht1 hu1
      try simp only [tsNx, tsSeq, tsBrk, tsCt, tsDrop, tsRet, tsRetN, tsIf, tsAsg, tgN, tgsNil, tgsCons, tgTup, tgSub, tsFor, tsWhile, tiSeq, tiRng1, tiRng2, tiZip, tb, tv, tc, tac, tan, ttup, tlst, tq, tand, tor, tnot, tife, tandV, torV, tnotV, tneg, tsl, tno, tpt, tcall, tbi, tml, tml0, tmj, tisi, tlRev, tlRng1, tdisp, tps, tlc_eq, tiEnumS, tixK, tiItems, tiVals, ttYes, bt1, btN, setsT, wipeT, endT, List.getElem?_cons_zero, List.getElem?_cons_succ, List.set_cons_zero, List.set_cons_succ]
      refine st_nil (nw fun E S5 hE hEE x5 => ?_)
      refine st_eql (x5 _ _ hA4) hEE (by
        have : ∀ ys : List Str, T.purs (ys.map fun x => T.tup [.str "name", .str x]) = true := by
          intro ys
          induction ys with
          | nil => exact purs_nil
          | cons y ys ih => rw [List.map_cons, purs_cons, ih, pur_tup, purs_cons, purs_cons, purs_nil, pur_str, pur_str]; rfl
        exact this xs) purs_nil (by rw [depths_nil]; omega) ?_
      cases xs with
      | nil =>
        rw [List.map_nil, eqTs_nil]
        exact br2 S5 x5
      | cons y0 yr =>
        rw [List.map_cons, eqTs_cn]
        try simp only [ev_le, ev_t0, ev_t1, ev_t2, ev_eqs, ev_eqi, ev_intb, ev_inti, ev_add, ev_sub, ev_lt, ev_gt, ev_sl1, ev_in2, ev_lent, ev_isn, Bool.or_false, Bool.or_true, Bool.false_or, Bool.true_or, eqG_f, eqG_t, kq, Bool.not_true, Bool.not_false, if_true, if_false, ite_true, ite_false, reduceIte, s_num_num, s_num_truth, s_num_open, s_num_list, s_num_pair, s_num_either, s_num_left, s_num_right, s_num_thing, s_num_fault, s_num_worth, s_num_table, s_truth_num, s_truth_truth, s_truth_open, s_truth_list, s_truth_pair, s_truth_either, s_truth_left, s_truth_right, s_truth_thing, s_truth_fault, s_truth_worth, s_truth_table, s_open_num, s_open_truth, s_open_open, s_open_list, s_open_pair, s_open_either, s_open_left, s_open_right, s_open_thing, s_open_fault, s_open_worth, s_open_table, s_list_num, s_list_truth, s_list_open, s_list_list, s_list_pair, s_list_either, s_list_left, s_list_right, s_list_thing, s_list_fault, s_list_worth, s_list_table, s_pair_num, s_pair_truth, s_pair_open, s_pair_list, s_pair_pair, s_pair_either, s_pair_left, s_pair_right, s_pair_thing, s_pair_fault, s_pair_worth, s_pair_table, s_either_num, s_either_truth, s_either_open, s_either_list, s_either_pair, s_either_either, s_either_left, s_either_right, s_either_thing, s_either_fault, s_either_worth, s_either_table, s_left_num, s_left_truth, s_left_open, s_left_list, s_left_pair, s_left_either, s_left_left, s_left_right, s_left_thing, s_left_fault, s_left_worth, s_left_table, s_right_num, s_right_truth, s_right_open, s_right_list, s_right_pair, s_right_either, s_right_left, s_right_right, s_right_thing, s_right_fault, s_right_worth, s_right_table, s_thing_num, s_thing_truth, s_thing_open, s_thing_list, s_thing_pair, s_thing_either, s_thing_left, s_thing_right, s_thing_thing, s_thing_fault, s_thing_worth, s_thing_table, s_fault_num, s_fault_truth, s_fault_open, s_fault_list, s_fault_pair, s_fault_either, s_fault_left, s_fault_right, s_fault_thing, s_fault_fault, s_fault_worth, s_fault_table, s_worth_num, s_worth_truth, s_worth_open, s_worth_list, s_worth_pair, s_worth_either, s_worth_left, s_worth_right, s_worth_thing, s_worth_fault, s_worth_worth, s_worth_table, s_table_num, s_table_truth, s_table_open, s_table_list, s_table_pair, s_table_either, s_table_left, s_table_right, s_table_thing, s_table_fault, s_table_worth, s_table_table]
        cases decide (way < 4) with
        | true => exact br1 S5 x5 (by simp)
        | false =>
          simp only []
          cases decide (d ≤ 0) with
          | true => exact br1 S5 x5 (by simp)
          | false => exact br2 S5 x5
    try simp only [tsNx, tsSeq, tsBrk, tsCt, tsDrop, tsRet, tsRetN, tsIf, tsAsg, tgN, tgsNil, tgsCons, tgTup, tgSub, tsFor, tsWhile, tiSeq, tiRng1, tiRng2, tiZip, tb, tv, tc, tac, tan, ttup, tlst, tq, tand, tor, tnot, tife, tandV, torV, tnotV, tneg, tsl, tno, tpt, tcall, tbi, tml, tml0, tmj, tisi, tlRev, tlRng1, tdisp, tps, tlc_eq, tiEnumS, tixK, tiItems, tiVals, ttYes, bt1, btN, setsT, wipeT, endT, List.getElem?_cons_zero, List.getElem?_cons_succ, List.set_cons_zero, List.set_cons_succ]
    refine st_faults g3.tl fun f => ?_
    try simp only [ev_t0, ev_t1, ev_t2, ev_eqs, ev_eqi, ev_intb, ev_inti, ev_add, ev_sub, ev_lt, ev_gt, ev_sl1, ev_in2, ev_lent, ev_isn, Bool.or_false, Bool.or_true, Bool.false_or, Bool.true_or, eqG_f, eqG_t, kq, Bool.not_true, Bool.not_false, if_true, if_false, ite_true, ite_false, reduceIte, s_num_num, s_num_truth, s_num_open, s_num_list, s_num_pair, s_num_either, s_num_left, s_num_right, s_num_thing, s_num_fault, s_num_worth, s_num_table, s_truth_num, s_truth_truth, s_truth_open, s_truth_list, s_truth_pair, s_truth_either, s_truth_left, s_truth_right, s_truth_thing, s_truth_fault, s_truth_worth, s_truth_table, s_open_num, s_open_truth, s_open_open, s_open_list, s_open_pair, s_open_either, s_open_left, s_open_right, s_open_thing, s_open_fault, s_open_worth, s_open_table, s_list_num, s_list_truth, s_list_open, s_list_list, s_list_pair, s_list_either, s_list_left, s_list_right, s_list_thing, s_list_fault, s_list_worth, s_list_table, s_pair_num, s_pair_truth, s_pair_open, s_pair_list, s_pair_pair, s_pair_either, s_pair_left, s_pair_right, s_pair_thing, s_pair_fault, s_pair_worth, s_pair_table, s_either_num, s_either_truth, s_either_open, s_either_list, s_either_pair, s_either_either, s_either_left, s_either_right, s_either_thing, s_either_fault, s_either_worth, s_either_table, s_left_num, s_left_truth, s_left_open, s_left_list, s_left_pair, s_left_either, s_left_left, s_left_right, s_left_thing, s_left_fault, s_left_worth, s_left_table, s_right_num, s_right_truth, s_right_open, s_right_list, s_right_pair, s_right_either, s_right_left, s_right_right, s_right_thing, s_right_fault, s_right_worth, s_right_table, s_thing_num, s_thing_truth, s_thing_open, s_thing_list, s_thing_pair, s_thing_either, s_thing_left, s_thing_right, s_thing_thing, s_thing_fault, s_thing_worth, s_thing_table, s_fault_num, s_fault_truth, s_fault_open, s_fault_list, s_fault_pair, s_fault_either, s_fault_left, s_fault_right, s_fault_thing, s_fault_fault, s_fault_worth, s_fault_table, s_worth_num, s_worth_truth, s_worth_open, s_worth_list, s_worth_pair, s_worth_either, s_worth_left, s_worth_right, s_worth_thing, s_worth_fault, s_worth_worth, s_worth_table, s_table_num, s_table_truth, s_table_open, s_table_list, s_table_pair, s_table_either, s_table_left, s_table_right, s_table_thing, s_table_fault, s_table_worth, s_table_table]
    cases f == 1 with
    | false => exact rest S2 (fun _ _ e => e)
    | true =>
      simp only [ev_kd0, ev_eqs, eqG_t]
      cases !(kd.w == (Str.ofString "fun")) with
      | false => exact rest S2 (fun _ _ e => e)
      | true =>
        try simp only [ev_t0, ev_t1, ev_t2, ev_eqs, ev_eqi, ev_intb, ev_inti, ev_add, ev_sub, ev_lt, ev_gt, ev_sl1, ev_in2, ev_lent, ev_isn, Bool.or_false, Bool.or_true, Bool.false_or, Bool.true_or, eqG_f, eqG_t, kq, Bool.not_true, Bool.not_false, if_true, if_false, ite_true, ite_false, reduceIte, s_num_num, s_num_truth, s_num_open, s_num_list, s_num_pair, s_num_either, s_num_left, s_num_right, s_num_thing, s_num_fault, s_num_worth, s_num_table, s_truth_num, s_truth_truth, s_truth_open, s_truth_list, s_truth_pair, s_truth_either, s_truth_left, s_truth_right, s_truth_thing, s_truth_fault, s_truth_worth, s_truth_table, s_open_num, s_open_truth, s_open_open, s_open_list, s_open_pair, s_open_either, s_open_left, s_open_right, s_open_thing, s_open_fault, s_open_worth, s_open_table, s_list_num, s_list_truth, s_list_open, s_list_list, s_list_pair, s_list_either, s_list_left, s_list_right, s_list_thing, s_list_fault, s_list_worth, s_list_table, s_pair_num, s_pair_truth, s_pair_open, s_pair_list, s_pair_pair, s_pair_either, s_pair_left, s_pair_right, s_pair_thing, s_pair_fault, s_pair_worth, s_pair_table, s_either_num, s_either_truth, s_either_open, s_either_list, s_either_pair, s_either_either, s_either_left, s_either_right, s_either_thing, s_either_fault, s_either_worth, s_either_table, s_left_num, s_left_truth, s_left_open, s_left_list, s_left_pair, s_left_either, s_left_left, s_left_right, s_left_thing, s_left_fault, s_left_worth, s_left_table, s_right_num, s_right_truth, s_right_open, s_right_list, s_right_pair, s_right_either, s_right_left, s_right_right, s_right_thing, s_right_fault, s_right_worth, s_right_table, s_thing_num, s_thing_truth, s_thing_open, s_thing_list, s_thing_pair, s_thing_either, s_thing_left, s_thing_right, s_thing_thing, s_thing_fault, s_thing_worth, s_thing_table, s_fault_num, s_fault_truth, s_fault_open, s_fault_list, s_fault_pair, s_fault_either, s_fault_left, s_fault_right, s_fault_thing, s_fault_fault, s_fault_worth, s_fault_table, s_worth_num, s_worth_truth, s_worth_open, s_worth_list, s_worth_pair, s_worth_either, s_worth_left, s_worth_right, s_worth_thing, s_worth_fault, s_worth_worth, s_worth_table, s_table_num, s_table_truth, s_table_open, s_table_list, s_table_pair, s_table_either, s_table_left, s_table_right, s_table_thing, s_table_fault, s_table_worth, s_table_table]
        cases way == 11 with
        | false => exact rest S2 (fun _ _ e => e)
        | true =>
          simp only []
          have w1 : WF 1 (.tup [.str "fault", kd.t]) := ⟨_, _, _, rfl, sg_fault, ⟨hkg.pb, trivial⟩, fun z => absurd z (by decide +kernel)⟩
          refine ⟨z4000 (by simp), q _ S2 (WF.mono w1 (by unfold hgt; split <;> omega)) (fun _ => ?_) f3⟩
          simp only [sz_tup, szs_cons, szs_nil, sz_str, kd_sz]
          have := kd_m2 kd
          omega
end LAW
set_option Elab.async false
set_option linter.all false
set_option maxRecDepth 100000
set_option maxHeartbeats 2000000
/-! D26: a term of bounded size. -/
namespace LAW
open PySem PySem.Spec PyProof.Rows L2 TL
theorem Gen.dn {S : Sto} {D C tl kn : Addr} {own : Str} {ks : List (Str × Kd)} {kd : Kd} {d e : Int} (g : Gen S D C tl kn own ks kd d) (h : e ≤ d) : Gen S D C tl kn own ks kd e := ⟨g.dk, g.tl, g.n1, g.n2, g.kn, g.kks.mono h, g.kg.mono h, g.few, by have := g.d6; omega⟩
theorem vc_term (n : Nat) (hn : 163 ≤ n) (ts : List T) (S : Sto) (Q : T → Sto → Prop) (hl : ts.length = 5) (h : spTerm ts S Q) : t_Lterm n (endT Q) (startT N_Lterm.length ts) S := by
  obtain ⟨D, C, tl, kn, own, kd, rfl, g, q⟩ := h
  rw [show startT N_Lterm.length [T.adr D, .adr tl, .adr kn, kd.t, .int 6] = [some (.adr D), some (.adr tl), some (.adr kn), some kd.t, some (.int 6), none, none, none, none] from rfl]
  unfold t_Lterm
  refine seq_cut fun v1 hv1 => for_cut fun b1 hb1 => ?_
  try simp only [tsNx, tsSeq, tsBrk, tsCt, tsDrop, tsRet, tsRetN, tsIf, tsAsg, tgN, tgsNil, tgsCons, tgTup, tgSub, tsFor, tsWhile, tiSeq, tiRng1, tiRng2, tiZip, tb, tv, tc, tac, tan, ttup, tlst, tq, tand, tor, tnot, tife, tandV, torV, tnotV, tneg, tsl, tno, tpt, tcall, tbi, tml, tml0, tmj, tisi, tlRev, tlRng1, tdisp, tps, tlc_eq, tiEnumS, tixK, tiItems, tiVals, ttYes, bt1, btN, setsT, wipeT, endT, List.getElem?_cons_zero, List.getElem?_cons_succ, List.set_cons_zero, List.set_cons_succ]
  refine ⟨by omega, by omega, fun i ρ' S' => i ≤ 3 ∧ Fr D C S S' ∧ ∃ k5 k6 k7 k8, ρ' = [some (.adr D), some (.adr tl), some (.adr kn), some kd.t, some (.int 6), k5, k6, k7, k8], ⟨Nat.zero_le _, Fr.refl g.dk, _, _, _, _, rfl⟩, ?_⟩
  rintro i ρ' S' ⟨hi, fr, k5, k6, k7, k8, rfl⟩
  refine ⟨trivial, ?_⟩
  have g' := g.fr fr
  cases he : (rngT 0 (3 : Int).toNat)[i]? with
  | none =>
    simp only []
    rw [hv1]
    clear hb1 hv1
    refine seq_cut fun v2 hv2 => ?_
    try simp only [tsNx, tsSeq, tsBrk, tsCt, tsDrop, tsRet, tsRetN, tsIf, tsAsg, tgN, tgsNil, tgsCons, tgTup, tgSub, tsFor, tsWhile, tiSeq, tiRng1, tiRng2, tiZip, tb, tv, tc, tac, tan, ttup, tlst, tq, tand, tor, tnot, tife, tandV, torV, tnotV, tneg, tsl, tno, tpt, tcall, tbi, tml, tml0, tmj, tisi, tlRev, tlRng1, tdisp, tps, tlc_eq, tiEnumS, tixK, tiItems, tiVals, ttYes, bt1, btN, setsT, wipeT, endT, List.getElem?_cons_zero, List.getElem?_cons_succ, List.set_cons_zero, List.set_cons_succ]
    obtain ⟨no, n1, n2, kvs, an, al, aw, a, b, c, lo, ws, fl, h1, h2, ⟨a1, a2, a3, a4, a5⟩, ⟨b1, b2, b3, b4⟩, ⟨c1, c2, c3, c4, c5⟩, h3, h4⟩ := g'.tl
    refine st_setd h1 rfl (Nat.lt_of_lt_of_le (show _ < 101 by omega) (by decide)) fun S2 u2 => ?_
    have nl : ∀ {x : Addr} {xs : List T}, S' x = some (.lst xs) → x ≠ tl := fun h z => by rw [z, h1] at h; cases h
    have np : ∀ {x : Str}, ((Str.ofString "faults") == x) = false → ∀ {v : T}, valT kvs (.inr x) = some v → valT (putT kvs (.inr (Str.ofString "faults")) (.int 0)) (.inr x) = some v := fun {x} hx {v} h => by
      rw [valT_putother (fun z => by injection z with z; rw [z] at hx; simp at hx)]; exact h
    have keep : ∀ a o, a ≠ tl → S' a = some o → S2 a = some o := fun a o h e => u2.get h e
    have dk2 : Deck S2 D C := by
      obtain ⟨ne, e1, e2, e3, e4, e5, e6⟩ := g'.dk
      exact ⟨ne, e1, e2, e3, keep _ _ (Ne.symm n1) e4, keep _ _ (Ne.symm n2) e5, e6⟩
    have tl2 : Tools S2 D C tl own := ⟨no, n1, n2, _, an, al, aw, a, b, c, lo, ws, 0, u2.at_, ?_, ⟨a1, a2, np (by decide +kernel) a3, keep _ _ (nl a4) a4, a5⟩, ⟨b1, b2, np (by decide +kernel) b3, keep _ _ (nl b4) b4⟩, ⟨c1, c2, np (by decide +kernel) c3, keep _ _ (nl c4) c4, c5⟩, np (by decide +kernel) h3, valT_putsame⟩
    rotate_left
    · have e : ∀ (kvs : List (Key × T)) (k : Key) (v w : T), valT kvs k = some w → (putT kvs k v).length = kvs.length := by
        intro kvs k v w h
        unfold putT
        rw [if_pos (by rw [valT_any, h]; rfl), List.length_map]
      rw [e _ _ _ _ h4]; exact h2
    rw [hv2]
    try simp only [tsNx, tsSeq, tsBrk, tsCt, tsDrop, tsRet, tsRetN, tsIf, tsAsg, tgN, tgsNil, tgsCons, tgTup, tgSub, tsFor, tsWhile, tiSeq, tiRng1, tiRng2, tiZip, tb, tv, tc, tac, tan, ttup, tlst, tq, tand, tor, tnot, tife, tandV, torV, tnotV, tneg, tsl, tno, tpt, tcall, tbi, tml, tml0, tmj, tisi, tlRev, tlRng1, tdisp, tps, tlc_eq, tiEnumS, tixK, tiItems, tiVals, ttYes, bt1, btN, setsT, wipeT, endT, List.getElem?_cons_zero, List.getElem?_cons_succ, List.set_cons_zero, List.set_cons_succ]
    have g2 : Gen S2 D C tl kn own [] kd (-2) := ⟨dk2, tl2, g.n1, g.n2, keep _ _ (nl g'.kn) g'.kn, (fun p hp => by cases hp), g.kg.mono (by decide), Nat.zero_le _, by decide⟩
    have hh : kd.h ≤ 6 := g.kg.h
    have hm : kd.m + 2 ≤ 80 := g.kg.m
    have hlev : lev (-2) kd.h = 40 + 3 * kd.h := by unfold lev; rw [if_pos (by decide)]
    have hhg : hgt (-2) kd.h = kd.h + 1 := by unfold hgt; rw [if_pos (by decide)]
    try simp only [ev_t0, ev_t1, ev_t2, ev_eqs, ev_eqi, ev_intb, ev_inti, ev_add, ev_sub, ev_lt, ev_gt, ev_sl1, ev_in2, ev_lent, ev_isn, Bool.or_false, Bool.or_true, Bool.false_or, Bool.true_or, eqG_f, eqG_t, kq, Bool.not_true, Bool.not_false, if_true, if_false, ite_true, ite_false, reduceIte, s_num_num, s_num_truth, s_num_open, s_num_list, s_num_pair, s_num_either, s_num_left, s_num_right, s_num_thing, s_num_fault, s_num_worth, s_num_table, s_truth_num, s_truth_truth, s_truth_open, s_truth_list, s_truth_pair, s_truth_either, s_truth_left, s_truth_right, s_truth_thing, s_truth_fault, s_truth_worth, s_truth_table, s_open_num, s_open_truth, s_open_open, s_open_list, s_open_pair, s_open_either, s_open_left, s_open_right, s_open_thing, s_open_fault, s_open_worth, s_open_table, s_list_num, s_list_truth, s_list_open, s_list_list, s_list_pair, s_list_either, s_list_left, s_list_right, s_list_thing, s_list_fault, s_list_worth, s_list_table, s_pair_num, s_pair_truth, s_pair_open, s_pair_list, s_pair_pair, s_pair_either, s_pair_left, s_pair_right, s_pair_thing, s_pair_fault, s_pair_worth, s_pair_table, s_either_num, s_either_truth, s_either_open, s_either_list, s_either_pair, s_either_either, s_either_left, s_either_right, s_either_thing, s_either_fault, s_either_worth, s_either_table, s_left_num, s_left_truth, s_left_open, s_left_list, s_left_pair, s_left_either, s_left_left, s_left_right, s_left_thing, s_left_fault, s_left_worth, s_left_table, s_right_num, s_right_truth, s_right_open, s_right_list, s_right_pair, s_right_either, s_right_left, s_right_right, s_right_thing, s_right_fault, s_right_worth, s_right_table, s_thing_num, s_thing_truth, s_thing_open, s_thing_list, s_thing_pair, s_thing_either, s_thing_left, s_thing_right, s_thing_thing, s_thing_fault, s_thing_worth, s_thing_table, s_fault_num, s_fault_truth, s_fault_open, s_fault_list, s_fault_pair, s_fault_either, s_fault_left, s_fault_right, s_fault_thing, s_fault_fault, s_fault_worth, s_fault_table, s_worth_num, s_worth_truth, s_worth_open, s_worth_list, s_worth_pair, s_worth_either, s_worth_left, s_worth_right, s_worth_thing, s_worth_fault, s_worth_worth, s_worth_table, s_table_num, s_table_truth, s_table_open, s_table_list, s_table_pair, s_table_either, s_table_left, s_table_right, s_table_thing, s_table_fault, s_table_worth, s_table_table]
    refine ⟨rfl, D, C, tl, kn, own, [], kd, -2, rfl, g2, by omega, by rw [List.length_nil]; omega, fun t S3 ht hz f3 => ?_⟩
    have := hz (by decide)
    refine q t S3 ⟨WF.mono ht (by omega), by omega⟩ f3.dk fun x o x1 x2 x3 e => f3.kp _ _ x1 x2 (keep _ _ x3 (fr.kp _ _ x1 x2 e))
  | some y =>
    obtain ⟨hi3, rfl⟩ := rng_some he
    have hi3 : i < 3 := hi3
    try simp only [tsNx, tsSeq, tsBrk, tsCt, tsDrop, tsRet, tsRetN, tsIf, tsAsg, tgN, tgsNil, tgsCons, tgTup, tgSub, tsFor, tsWhile, tiSeq, tiRng1, tiRng2, tiZip, tb, tv, tc, tac, tan, ttup, tlst, tq, tand, tor, tnot, tife, tandV, torV, tnotV, tneg, tsl, tno, tpt, tcall, tbi, tml, tml0, tmj, tisi, tlRev, tlRng1, tdisp, tps, tlc_eq, tiEnumS, tixK, tiItems, tiVals, ttYes, bt1, btN, setsT, wipeT, endT, List.getElem?_cons_zero, List.getElem?_cons_succ, List.set_cons_zero, List.set_cons_succ]
    rw [hb1]
    clear hb1 hv1
    refine seq_cut fun v2 hv2 => ?_
    try simp only [tsNx, tsSeq, tsBrk, tsCt, tsDrop, tsRet, tsRetN, tsIf, tsAsg, tgN, tgsNil, tgsCons, tgTup, tgSub, tsFor, tsWhile, tiSeq, tiRng1, tiRng2, tiZip, tb, tv, tc, tac, tan, ttup, tlst, tq, tand, tor, tnot, tife, tandV, torV, tnotV, tneg, tsl, tno, tpt, tcall, tbi, tml, tml0, tmj, tisi, tlRev, tlRng1, tdisp, tps, tlc_eq, tiEnumS, tixK, tiItems, tiVals, ttYes, bt1, btN, setsT, wipeT, endT, List.getElem?_cons_zero, List.getElem?_cons_succ, List.set_cons_zero, List.set_cons_succ]
    try simp only [ev_t0, ev_t1, ev_t2, ev_eqs, ev_eqi, ev_intb, ev_inti, ev_add, ev_sub, ev_lt, ev_gt, ev_sl1, ev_in2, ev_lent, ev_isn, Bool.or_false, Bool.or_true, Bool.false_or, Bool.true_or, eqG_f, eqG_t, kq, Bool.not_true, Bool.not_false, if_true, if_false, ite_true, ite_false, reduceIte, s_num_num, s_num_truth, s_num_open, s_num_list, s_num_pair, s_num_either, s_num_left, s_num_right, s_num_thing, s_num_fault, s_num_worth, s_num_table, s_truth_num, s_truth_truth, s_truth_open, s_truth_list, s_truth_pair, s_truth_either, s_truth_left, s_truth_right, s_truth_thing, s_truth_fault, s_truth_worth, s_truth_table, s_open_num, s_open_truth, s_open_open, s_open_list, s_open_pair, s_open_either, s_open_left, s_open_right, s_open_thing, s_open_fault, s_open_worth, s_open_table, s_list_num, s_list_truth, s_list_open, s_list_list, s_list_pair, s_list_either, s_list_left, s_list_right, s_list_thing, s_list_fault, s_list_worth, s_list_table, s_pair_num, s_pair_truth, s_pair_open, s_pair_list, s_pair_pair, s_pair_either, s_pair_left, s_pair_right, s_pair_thing, s_pair_fault, s_pair_worth, s_pair_table, s_either_num, s_either_truth, s_either_open, s_either_list, s_either_pair, s_either_either, s_either_left, s_either_right, s_either_thing, s_either_fault, s_either_worth, s_either_table, s_left_num, s_left_truth, s_left_open, s_left_list, s_left_pair, s_left_either, s_left_left, s_left_right, s_left_thing, s_left_fault, s_left_worth, s_left_table, s_right_num, s_right_truth, s_right_open, s_right_list, s_right_pair, s_right_either, s_right_left, s_right_right, s_right_thing, s_right_fault, s_right_worth, s_right_table, s_thing_num, s_thing_truth, s_thing_open, s_thing_list, s_thing_pair, s_thing_either, s_thing_left, s_thing_right, s_thing_thing, s_thing_fault, s_thing_worth, s_thing_table, s_fault_num, s_fault_truth, s_fault_open, s_fault_list, s_fault_pair, s_fault_either, s_fault_left, s_fault_right, s_fault_thing, s_fault_fault, s_fault_worth, s_fault_table, s_worth_num, s_worth_truth, s_worth_open, s_worth_list, s_worth_pair, s_worth_either, s_worth_left, s_worth_right, s_worth_thing, s_worth_fault, s_worth_worth, s_worth_table, s_table_num, s_table_truth, s_table_open, s_table_list, s_table_pair, s_table_either, s_table_left, s_table_right, s_table_thing, s_table_fault, s_table_worth, s_table_table]
    refine st_mul (mul_l (by omega) (by omega)) ?_
    try simp only [ev_t0, ev_t1, ev_t2, ev_eqs, ev_eqi, ev_intb, ev_inti, ev_add, ev_sub, ev_lt, ev_gt, ev_sl1, ev_in2, ev_lent, ev_isn, Bool.or_false, Bool.or_true, Bool.false_or, Bool.true_or, eqG_f, eqG_t, kq, Bool.not_true, Bool.not_false, if_true, if_false, ite_true, ite_false, reduceIte, s_num_num, s_num_truth, s_num_open, s_num_list, s_num_pair, s_num_either, s_num_left, s_num_right, s_num_thing, s_num_fault, s_num_worth, s_num_table, s_truth_num, s_truth_truth, s_truth_open, s_truth_list, s_truth_pair, s_truth_either, s_truth_left, s_truth_right, s_truth_thing, s_truth_fault, s_truth_worth, s_truth_table, s_open_num, s_open_truth, s_open_open, s_open_list, s_open_pair, s_open_either, s_open_left, s_open_right, s_open_thing, s_open_fault, s_open_worth, s_open_table, s_list_num, s_list_truth, s_list_open, s_list_list, s_list_pair, s_list_either, s_list_left, s_list_right, s_list_thing, s_list_fault, s_list_worth, s_list_table, s_pair_num, s_pair_truth, s_pair_open, s_pair_list, s_pair_pair, s_pair_either, s_pair_left, s_pair_right, s_pair_thing, s_pair_fault, s_pair_worth, s_pair_table, s_either_num, s_either_truth, s_either_open, s_either_list, s_either_pair, s_either_either, s_either_left, s_either_right, s_either_thing, s_either_fault, s_either_worth, s_either_table, s_left_num, s_left_truth, s_left_open, s_left_list, s_left_pair, s_left_either, s_left_left, s_left_right, s_left_thing, s_left_fault, s_left_worth, s_left_table, s_right_num, s_right_truth, s_right_open, s_right_list, s_right_pair, s_right_either, s_right_left, s_right_right, s_right_thing, s_right_fault, s_right_worth, s_right_table, s_thing_num, s_thing_truth, s_thing_open, s_thing_list, s_thing_pair, s_thing_either, s_thing_left, s_thing_right, s_thing_thing, s_thing_fault, s_thing_worth, s_thing_table, s_fault_num, s_fault_truth, s_fault_open, s_fault_list, s_fault_pair, s_fault_either, s_fault_left, s_fault_right, s_fault_thing, s_fault_fault, s_fault_worth, s_fault_table, s_worth_num, s_worth_truth, s_worth_open, s_worth_list, s_worth_pair, s_worth_either, s_worth_left, s_worth_right, s_worth_thing, s_worth_fault, s_worth_worth, s_worth_table, s_table_num, s_table_truth, s_table_open, s_table_list, s_table_pair, s_table_either, s_table_left, s_table_right, s_table_thing, s_table_fault, s_table_worth, s_table_table]
    have hlev : lev (6 - 2 * (0 + (i : Int))) kd.h ≤ 163 := by unfold lev; rw [if_neg (by omega)]; omega
    have hhg : hgt (6 - 2 * (0 + (i : Int))) kd.h ≤ 58 := by unfold hgt; rw [if_neg (by omega)]; omega
    refine ⟨rfl, D, C, tl, kn, own, [], kd, _, rfl, g'.dn (by omega), by omega, by rw [List.length_nil]; omega, fun t S2 ht _ f2 => ?_⟩
    rw [hv2]
    clear hv2
    refine seq_cut fun v3 hv3 => ?_
    try simp only [tsNx, tsSeq, tsBrk, tsCt, tsDrop, tsRet, tsRetN, tsIf, tsAsg, tgN, tgsNil, tgsCons, tgTup, tgSub, tsFor, tsWhile, tiSeq, tiRng1, tiRng2, tiZip, tb, tv, tc, tac, tan, ttup, tlst, tq, tand, tor, tnot, tife, tandV, torV, tnotV, tneg, tsl, tno, tpt, tcall, tbi, tml, tml0, tmj, tisi, tlRev, tlRng1, tdisp, tps, tlc_eq, tiEnumS, tixK, tiItems, tiVals, ttYes, bt1, btN, setsT, wipeT, endT, List.getElem?_cons_zero, List.getElem?_cons_succ, List.set_cons_zero, List.set_cons_succ]
    refine ⟨rfl, t, rfl, WF.mono ht (by omega), fun a b S3 hw hz a1 b1 x3 => ⟨rfl, ?_⟩⟩
    have f3 := (fr.trans f2).ex x3
    rw [hv3]
    clear hv3
    have go : i + 1 ≤ 3 ∧ Fr D C S S3 ∧ ∃ k5 k6 k7 k8, [some (T.adr D), some (.adr tl), some (.adr kn), some kd.t, some (.int 6), some (.int (0 + (i : Int))), some t, some (.int (a : Int)), some (.int (b : Int))] = [some (.adr D), some (.adr tl), some (.adr kn), some kd.t, some (.int 6), k5, k6, k7, k8] := ⟨hi3, f3, _, _, _, _, rfl⟩
    try simp only [tsNx, tsSeq, tsBrk, tsCt, tsDrop, tsRet, tsRetN, tsIf, tsAsg, tgN, tgsNil, tgsCons, tgTup, tgSub, tsFor, tsWhile, tiSeq, tiRng1, tiRng2, tiZip, tb, tv, tc, tac, tan, ttup, tlst, tq, tand, tor, tnot, tife, tandV, torV, tnotV, tneg, tsl, tno, tpt, tcall, tbi, tml, tml0, tmj, tisi, tlRev, tlRng1, tdisp, tps, tlc_eq, tiEnumS, tixK, tiItems, tiVals, ttYes, bt1, btN, setsT, wipeT, endT, List.getElem?_cons_zero, List.getElem?_cons_succ, List.set_cons_zero, List.set_cons_succ]
    try simp only [ev_le, ev_t0, ev_t1, ev_t2, ev_eqs, ev_eqi, ev_intb, ev_inti, ev_add, ev_sub, ev_lt, ev_gt, ev_sl1, ev_in2, ev_lent, ev_isn, Bool.or_false, Bool.or_true, Bool.false_or, Bool.true_or, eqG_f, eqG_t, kq, Bool.not_true, Bool.not_false, if_true, if_false, ite_true, ite_false, reduceIte, s_num_num, s_num_truth, s_num_open, s_num_list, s_num_pair, s_num_either, s_num_left, s_num_right, s_num_thing, s_num_fault, s_num_worth, s_num_table, s_truth_num, s_truth_truth, s_truth_open, s_truth_list, s_truth_pair, s_truth_either, s_truth_left, s_truth_right, s_truth_thing, s_truth_fault, s_truth_worth, s_truth_table, s_open_num, s_open_truth, s_open_open, s_open_list, s_open_pair, s_open_either, s_open_left, s_open_right, s_open_thing, s_open_fault, s_open_worth, s_open_table, s_list_num, s_list_truth, s_list_open, s_list_list, s_list_pair, s_list_either, s_list_left, s_list_right, s_list_thing, s_list_fault, s_list_worth, s_list_table, s_pair_num, s_pair_truth, s_pair_open, s_pair_list, s_pair_pair, s_pair_either, s_pair_left, s_pair_right, s_pair_thing, s_pair_fault, s_pair_worth, s_pair_table, s_either_num, s_either_truth, s_either_open, s_either_list, s_either_pair, s_either_either, s_either_left, s_either_right, s_either_thing, s_either_fault, s_either_worth, s_either_table, s_left_num, s_left_truth, s_left_open, s_left_list, s_left_pair, s_left_either, s_left_left, s_left_right, s_left_thing, s_left_fault, s_left_worth, s_left_table, s_right_num, s_right_truth, s_right_open, s_right_list, s_right_pair, s_right_either, s_right_left, s_right_right, s_right_thing, s_right_fault, s_right_worth, s_right_table, s_thing_num, s_thing_truth, s_thing_open, s_thing_list, s_thing_pair, s_thing_either, s_thing_left, s_thing_right, s_thing_thing, s_thing_fault, s_thing_worth, s_thing_table, s_fault_num, s_fault_truth, s_fault_open, s_fault_list, s_fault_pair, s_fault_either, s_fault_left, s_fault_right, s_fault_thing, s_fault_fault, s_fault_worth, s_fault_table, s_worth_num, s_worth_truth, s_worth_open, s_worth_list, s_worth_pair, s_worth_either, s_worth_left, s_worth_right, s_worth_thing, s_worth_fault, s_worth_worth, s_worth_table, s_table_num, s_table_truth, s_table_open, s_table_list, s_table_pair, s_table_either, s_table_left, s_table_right, s_table_thing, s_table_fault, s_table_worth, s_table_table]
    cases ha : decide ((a : Int) ≤ 60) with
    | false => exact go
    | true =>
      simp only []
      cases hb : decide ((b : Int) ≤ 12) with
      | false => exact go
      | true =>
        have ha := of_decide_eq_true ha
        have hb := of_decide_eq_true hb
        exact q t S3 ⟨WF.mono hw (by omega), by omega⟩ f3.dk fun x o x1 x2 x3 e => f3.kp _ _ x1 x2 e
end LAW
set_option Elab.async false
set_option linter.all false
set_option maxRecDepth 100000
set_option maxHeartbeats 4000000
/-! D27: the law. -/
namespace LAW
open PySem PySem.Spec PyProof.Rows L2 TL
def spLaw : TSp := fun ts S Q => ∃ ns : List Int, ts = [.fl (ns.map T.int)] ∧ ns.length ≤ 63 ∧ ∀ S', Q (.bl true) S'
theorem st_min {i j : Int} {S : Sto} {Q : T → Sto → Prop} (q : ∀ k : Int, k ≤ j → (k = i ∨ k = j) → Q (.int k) S) : oMin2 [.int i, .int j] S Q := by
  show Q (.int (if j < i then j else i)) S
  split
  · exact q j (Int.le_refl _) (.inr rfl)
  · exact q i (by omega) (.inl rfl)
theorem st_max {i j : Int} {S : Sto} {Q : T → Sto → Prop} (q : ∀ k : Int, (k = i ∨ k = j) → Q (.int k) S) : oMax2 [.int i, .int j] S Q := by
  show Q (.int (if j > i then j else i)) S
  split
  · exact q j (.inr rfl)
  · exact q i (.inl rfl)
def wordsL : List Str := ["rounds", "if", "rounds", "case", "fold", "rounds", "call", "built", "part"]
theorem words_ok : ∀ x ∈ wordsL, x ∈ (["if", "part", "case", "fold", "rounds", "call", "built"] : List Str) := by decide +kernel
theorem pow30 : (10 : Int) ^ (30 : Int).toNat = 1000000000000000000000000000000 := by decide
theorem cut_strs (xs : List Str) (lo hi : Option Int) : ∃ ys : List Str, cutT (xs.map T.str) lo hi = ys.map T.str ∧ (∀ y ∈ ys, y ∈ xs) := by
  unfold cutT
  exact ⟨(xs.drop (HT.sIx (xs.map T.str).length 0 lo)).take (HT.sIx (xs.map T.str).length (xs.map T.str).length hi - HT.sIx (xs.map T.str).length 0 lo), by rw [List.map_take, List.map_drop], fun y hy => List.mem_of_mem_drop (List.mem_of_mem_take hy)⟩
theorem cut_to2 {a b c d e f : T} : cutT [a, b, c, d, e, f] none (some 2) = [a, b] := rfl
theorem vc_law (n : Nat) (hn : 163 ≤ n) (ts : List T) (S : Sto) (Q : T → Sto → Prop) (hl : ts.length = 1) (h : spLaw ts S Q) : t_law n (endT Q) (startT N_law.length ts) S := by
  obtain ⟨ns, rfl, h63, q⟩ := h
  rw [show startT N_law.length [T.fl (ns.map T.int)] = [some (T.fl (ns.map T.int)), none, none, none, none, none, none, none, none] from rfl]
  unfold t_law
  refine seq_cut fun v0 hv0 => ?_
  try simp only [tsNx, tsSeq, tsBrk, tsCt, tsDrop, tsRet, tsRetN, tsIf, tsAsg, tgN, tgsNil, tgsCons, tgTup, tgSub, tsFor, tsWhile, tiSeq, tiRng1, tiRng2, tiZip, tb, tv, tc, tac, tan, ttup, tlst, tq, tand, tor, tnot, tife, tandV, torV, tnotV, tneg, tsl, tno, tpt, tcall, tbi, tml, tml0, tmj, tisi, tlRev, tlRng1, tdisp, tps, tlc_eq, tiEnumS, tixK, tiItems, tiVals, ttYes, bt1, btN, setsT, wipeT, endT, List.getElem?_cons_zero, List.getElem?_cons_succ, List.set_cons_zero, List.set_cons_succ]
  refine st_lst (by simp) (nw fun W S0 hW hWW x0 => ?_)
  have hWW : S0 W = some (.lst (wordsL.map T.str)) := hWW
  rw [hv0]
  clear hv0 x0 hW
  refine seq_cut fun v1 hv1 => for_cut fun b1 hb1 => ?_
  try simp only [tsNx, tsSeq, tsBrk, tsCt, tsDrop, tsRet, tsRetN, tsIf, tsAsg, tgN, tgsNil, tgsCons, tgTup, tgSub, tsFor, tsWhile, tiSeq, tiRng1, tiRng2, tiZip, tb, tv, tc, tac, tan, ttup, tlst, tq, tand, tor, tnot, tife, tandV, torV, tnotV, tneg, tsl, tno, tpt, tcall, tbi, tml, tml0, tmj, tisi, tlRev, tlRng1, tdisp, tps, tlc_eq, tiEnumS, tixK, tiItems, tiVals, ttYes, bt1, btN, setsT, wipeT, endT, List.getElem?_cons_zero, List.getElem?_cons_succ, List.set_cons_zero, List.set_cons_succ]
  have elen : ∀ (Q : T → Sto → Prop), Q (.int ((ns.map T.int).length : Int)) S0 → oLen [.fl (ns.map T.int)] S0 Q := fun Q q => q
  refine elen _ ?_
  refine st_min fun k0 hk0 hk00 => st_max fun k1 hk1 => ?_
  simp only []
  refine ⟨by omega, by omega, fun i ρ' S' => S' W = some (.lst (wordsL.map T.str)) ∧ ∃ a2 a3 a4 a5 a6 a7 a8, ρ' = [some (T.fl (ns.map T.int)), some (.adr W), a2, a3, a4, a5, a6, a7, a8], ⟨hWW, _, _, _, _, _, _, _, rfl⟩, ?_⟩
  rintro i ρ' S1 ⟨hW1, a2, a3, a4, a5, a6, a7, a8, rfl⟩
  refine ⟨trivial, ?_⟩
  cases hx : (rngT 0 k1.toNat)[i]? with
  | none =>
    simp only []
    rw [hv1]
    try simp only [tsNx, tsSeq, tsBrk, tsCt, tsDrop, tsRet, tsRetN, tsIf, tsAsg, tgN, tgsNil, tgsCons, tgTup, tgSub, tsFor, tsWhile, tiSeq, tiRng1, tiRng2, tiZip, tb, tv, tc, tac, tan, ttup, tlst, tq, tand, tor, tnot, tife, tandV, torV, tnotV, tneg, tsl, tno, tpt, tcall, tbi, tml, tml0, tmj, tisi, tlRev, tlRng1, tdisp, tps, tlc_eq, tiEnumS, tixK, tiItems, tiVals, ttYes, bt1, btN, setsT, wipeT, endT, List.getElem?_cons_zero, List.getElem?_cons_succ, List.set_cons_zero, List.set_cons_succ]
    exact q S1
  | some x =>
    obtain ⟨hi, rfl⟩ := rng_some hx
    try simp only [tsNx, tsSeq, tsBrk, tsCt, tsDrop, tsRet, tsRetN, tsIf, tsAsg, tgN, tgsNil, tgsCons, tgTup, tgSub, tsFor, tsWhile, tiSeq, tiRng1, tiRng2, tiZip, tb, tv, tc, tac, tan, ttup, tlst, tq, tand, tor, tnot, tife, tandV, torV, tnotV, tneg, tsl, tno, tpt, tcall, tbi, tml, tml0, tmj, tisi, tlRev, tlRng1, tdisp, tps, tlc_eq, tiEnumS, tixK, tiItems, tiVals, ttYes, bt1, btN, setsT, wipeT, endT, List.getElem?_cons_zero, List.getElem?_cons_succ, List.set_cons_zero, List.set_cons_succ]
    rw [hb1]
    clear hb1 hx hv1 hWW
    refine ends_cut fun E hE => ?_
    -- the deck
    refine seq_cut fun v2 hv2 => ?_
    try simp only [tsNx, tsSeq, tsBrk, tsCt, tsDrop, tsRet, tsRetN, tsIf, tsAsg, tgN, tgsNil, tgsCons, tgTup, tgSub, tsFor, tsWhile, tiSeq, tiRng1, tiRng2, tiZip, tb, tv, tc, tac, tan, ttup, tlst, tq, tand, tor, tnot, tife, tandV, torV, tnotV, tneg, tsl, tno, tpt, tcall, tbi, tml, tml0, tmj, tisi, tlRev, tlRng1, tdisp, tps, tlc_eq, tiEnumS, tixK, tiItems, tiVals, ttYes, bt1, btN, setsT, wipeT, endT, List.getElem?_cons_zero, List.getElem?_cons_succ, List.set_cons_zero, List.set_cons_succ]
    try simp only [ev_t0, ev_t1, ev_t2, ev_eqs, ev_eqi, ev_intb, ev_inti, ev_add, ev_sub, ev_lt, ev_gt, ev_sl1, ev_in2, ev_lent, ev_isn, Bool.or_false, Bool.or_true, Bool.false_or, Bool.true_or, eqG_f, eqG_t, kq, Bool.not_true, Bool.not_false, if_true, if_false, ite_true, ite_false, reduceIte, s_num_num, s_num_truth, s_num_open, s_num_list, s_num_pair, s_num_either, s_num_left, s_num_right, s_num_thing, s_num_fault, s_num_worth, s_num_table, s_truth_num, s_truth_truth, s_truth_open, s_truth_list, s_truth_pair, s_truth_either, s_truth_left, s_truth_right, s_truth_thing, s_truth_fault, s_truth_worth, s_truth_table, s_open_num, s_open_truth, s_open_open, s_open_list, s_open_pair, s_open_either, s_open_left, s_open_right, s_open_thing, s_open_fault, s_open_worth, s_open_table, s_list_num, s_list_truth, s_list_open, s_list_list, s_list_pair, s_list_either, s_list_left, s_list_right, s_list_thing, s_list_fault, s_list_worth, s_list_table, s_pair_num, s_pair_truth, s_pair_open, s_pair_list, s_pair_pair, s_pair_either, s_pair_left, s_pair_right, s_pair_thing, s_pair_fault, s_pair_worth, s_pair_table, s_either_num, s_either_truth, s_either_open, s_either_list, s_either_pair, s_either_either, s_either_left, s_either_right, s_either_thing, s_either_fault, s_either_worth, s_either_table, s_left_num, s_left_truth, s_left_open, s_left_list, s_left_pair, s_left_either, s_left_left, s_left_right, s_left_thing, s_left_fault, s_left_worth, s_left_table, s_right_num, s_right_truth, s_right_open, s_right_list, s_right_pair, s_right_either, s_right_left, s_right_right, s_right_thing, s_right_fault, s_right_worth, s_right_table, s_thing_num, s_thing_truth, s_thing_open, s_thing_list, s_thing_pair, s_thing_either, s_thing_left, s_thing_right, s_thing_thing, s_thing_fault, s_thing_worth, s_thing_table, s_fault_num, s_fault_truth, s_fault_open, s_fault_list, s_fault_pair, s_fault_either, s_fault_left, s_fault_right, s_fault_thing, s_fault_fault, s_fault_worth, s_fault_table, s_worth_num, s_worth_truth, s_worth_open, s_worth_list, s_worth_pair, s_worth_either, s_worth_left, s_worth_right, s_worth_thing, s_worth_fault, s_worth_worth, s_worth_table, s_table_num, s_table_truth, s_table_open, s_table_list, s_table_pair, s_table_either, s_table_left, s_table_right, s_table_thing, s_table_fault, s_table_worth, s_table_table]
    refine st_slf (nw fun p1 S2 hp1 hpp1 x1 => st_slf (nw fun p2 S3 hp2 hpp2 x2 => ?_))
    obtain ⟨m1, e1, l1⟩ := cut_ints ns (some (0 + (i : Int))) (some (0 + (i : Int) + 1))
    obtain ⟨m2, e2, l2⟩ := cut_ints ns none (some (0 + (i : Int)))
    rw [e1] at hpp1
    rw [e2] at hpp2
    refine st_addl (x2 _ _ hpp1) hpp2 (z4000 (by rw [List.length_map, List.length_map]; omega)) (nw fun p3 S4 hp3 hpp3 x3 => ?_)
    try simp only [ev_t0, ev_t1, ev_t2, ev_eqs, ev_eqi, ev_intb, ev_inti, ev_add, ev_sub, ev_lt, ev_gt, ev_sl1, ev_in2, ev_lent, ev_isn, Bool.or_false, Bool.or_true, Bool.false_or, Bool.true_or, eqG_f, eqG_t, kq, Bool.not_true, Bool.not_false, if_true, if_false, ite_true, ite_false, reduceIte, s_num_num, s_num_truth, s_num_open, s_num_list, s_num_pair, s_num_either, s_num_left, s_num_right, s_num_thing, s_num_fault, s_num_worth, s_num_table, s_truth_num, s_truth_truth, s_truth_open, s_truth_list, s_truth_pair, s_truth_either, s_truth_left, s_truth_right, s_truth_thing, s_truth_fault, s_truth_worth, s_truth_table, s_open_num, s_open_truth, s_open_open, s_open_list, s_open_pair, s_open_either, s_open_left, s_open_right, s_open_thing, s_open_fault, s_open_worth, s_open_table, s_list_num, s_list_truth, s_list_open, s_list_list, s_list_pair, s_list_either, s_list_left, s_list_right, s_list_thing, s_list_fault, s_list_worth, s_list_table, s_pair_num, s_pair_truth, s_pair_open, s_pair_list, s_pair_pair, s_pair_either, s_pair_left, s_pair_right, s_pair_thing, s_pair_fault, s_pair_worth, s_pair_table, s_either_num, s_either_truth, s_either_open, s_either_list, s_either_pair, s_either_either, s_either_left, s_either_right, s_either_thing, s_either_fault, s_either_worth, s_either_table, s_left_num, s_left_truth, s_left_open, s_left_list, s_left_pair, s_left_either, s_left_left, s_left_right, s_left_thing, s_left_fault, s_left_worth, s_left_table, s_right_num, s_right_truth, s_right_open, s_right_list, s_right_pair, s_right_either, s_right_left, s_right_right, s_right_thing, s_right_fault, s_right_worth, s_right_table, s_thing_num, s_thing_truth, s_thing_open, s_thing_list, s_thing_pair, s_thing_either, s_thing_left, s_thing_right, s_thing_thing, s_thing_fault, s_thing_worth, s_thing_table, s_fault_num, s_fault_truth, s_fault_open, s_fault_list, s_fault_pair, s_fault_either, s_fault_left, s_fault_right, s_fault_thing, s_fault_fault, s_fault_worth, s_fault_table, s_worth_num, s_worth_truth, s_worth_open, s_worth_list, s_worth_pair, s_worth_either, s_worth_left, s_worth_right, s_worth_thing, s_worth_fault, s_worth_worth, s_worth_table, s_table_num, s_table_truth, s_table_open, s_table_list, s_table_pair, s_table_either, s_table_left, s_table_right, s_table_thing, s_table_fault, s_table_worth, s_table_table]
    refine st_slf (nw fun p4 S5 hp4 hpp4 x4 => ?_)
    obtain ⟨m3, e3, l3⟩ := cut_ints ns (some (0 + (i : Int) + 1)) none
    rw [e3] at hpp4
    rw [← List.map_append] at hpp3
    refine st_addl (x4 _ _ hpp3) hpp4 (z4000 (by rw [List.length_map, List.length_map, List.length_append]; omega)) (nw fun p5 S6 hp5 hpp5 x5 => ?_)
    rw [← List.map_append] at hpp5
    refine ⟨rfl, _, p5, rfl, hpp5, fun D C S7 hD hC dk x7 => ?_⟩
    have hW6 := x5 _ _ (x4 _ _ (x3 _ _ (x2 _ _ (x1 _ _ hW1))))
    have WD : W ≠ D := fun z => by rw [← z, hW6] at hD; cases hD
    have WC : W ≠ C := fun z => by rw [← z, hW6] at hC; cases hC
    have hW7 := x7 _ _ hW6
    clear hpp5 x5 hp5 hpp4 x4 hp4 hpp3 x3 hp3 hpp2 x2 hp2 hpp1 x1 hp1 x7 hD hC hW6 hW1
    -- tower
    rw [hv2]
    clear hv2
    refine seq_cut fun v3 hv3 => ?_
    try simp only [tsNx, tsSeq, tsBrk, tsCt, tsDrop, tsRet, tsRetN, tsIf, tsAsg, tgN, tgsNil, tgsCons, tgTup, tgSub, tsFor, tsWhile, tiSeq, tiRng1, tiRng2, tiZip, tb, tv, tc, tac, tan, ttup, tlst, tq, tand, tor, tnot, tife, tandV, torV, tnotV, tneg, tsl, tno, tpt, tcall, tbi, tml, tml0, tmj, tisi, tlRev, tlRng1, tdisp, tps, tlc_eq, tiEnumS, tixK, tiItems, tiVals, ttYes, bt1, btN, setsT, wipeT, endT, List.getElem?_cons_zero, List.getElem?_cons_succ, List.set_cons_zero, List.set_cons_succ]
    refine ⟨rfl, D, C, 8, rfl, dk, by omega, by omega, fun w3 S8 _ _ f8 => ?_⟩
    try simp only [ev_t0, ev_t1, ev_t2, ev_eqs, ev_eqi, ev_intb, ev_inti, ev_add, ev_sub, ev_lt, ev_gt, ev_sl1, ev_in2, ev_lent, ev_isn, Bool.or_false, Bool.or_true, Bool.false_or, Bool.true_or, eqG_f, eqG_t, kq, Bool.not_true, Bool.not_false, if_true, if_false, ite_true, ite_false, reduceIte, s_num_num, s_num_truth, s_num_open, s_num_list, s_num_pair, s_num_either, s_num_left, s_num_right, s_num_thing, s_num_fault, s_num_worth, s_num_table, s_truth_num, s_truth_truth, s_truth_open, s_truth_list, s_truth_pair, s_truth_either, s_truth_left, s_truth_right, s_truth_thing, s_truth_fault, s_truth_worth, s_truth_table, s_open_num, s_open_truth, s_open_open, s_open_list, s_open_pair, s_open_either, s_open_left, s_open_right, s_open_thing, s_open_fault, s_open_worth, s_open_table, s_list_num, s_list_truth, s_list_open, s_list_list, s_list_pair, s_list_either, s_list_left, s_list_right, s_list_thing, s_list_fault, s_list_worth, s_list_table, s_pair_num, s_pair_truth, s_pair_open, s_pair_list, s_pair_pair, s_pair_either, s_pair_left, s_pair_right, s_pair_thing, s_pair_fault, s_pair_worth, s_pair_table, s_either_num, s_either_truth, s_either_open, s_either_list, s_either_pair, s_either_either, s_either_left, s_either_right, s_either_thing, s_either_fault, s_either_worth, s_either_table, s_left_num, s_left_truth, s_left_open, s_left_list, s_left_pair, s_left_either, s_left_left, s_left_right, s_left_thing, s_left_fault, s_left_worth, s_left_table, s_right_num, s_right_truth, s_right_open, s_right_list, s_right_pair, s_right_either, s_right_left, s_right_right, s_right_thing, s_right_fault, s_right_worth, s_right_table, s_thing_num, s_thing_truth, s_thing_open, s_thing_list, s_thing_pair, s_thing_either, s_thing_left, s_thing_right, s_thing_thing, s_thing_fault, s_thing_worth, s_thing_table, s_fault_num, s_fault_truth, s_fault_open, s_fault_list, s_fault_pair, s_fault_either, s_fault_left, s_fault_right, s_fault_thing, s_fault_fault, s_fault_worth, s_fault_table, s_worth_num, s_worth_truth, s_worth_open, s_worth_list, s_worth_pair, s_worth_either, s_worth_left, s_worth_right, s_worth_thing, s_worth_fault, s_worth_worth, s_worth_table, s_table_num, s_table_truth, s_table_open, s_table_list, s_table_pair, s_table_either, s_table_left, s_table_right, s_table_thing, s_table_fault, s_table_worth, s_table_table]
    rw [hv3]
    clear hv3
    generalize (w3 == (5 : Int)) = tw
    -- by
    refine seq_cut fun v4 hv4 => ?_
    try simp only [tsNx, tsSeq, tsBrk, tsCt, tsDrop, tsRet, tsRetN, tsIf, tsAsg, tgN, tgsNil, tgsCons, tgTup, tgSub, tsFor, tsWhile, tiSeq, tiRng1, tiRng2, tiZip, tb, tv, tc, tac, tan, ttup, tlst, tq, tand, tor, tnot, tife, tandV, torV, tnotV, tneg, tsl, tno, tpt, tcall, tbi, tml, tml0, tmj, tisi, tlRev, tlRng1, tdisp, tps, tlc_eq, tiEnumS, tixK, tiItems, tiVals, ttYes, bt1, btN, setsT, wipeT, endT, List.getElem?_cons_zero, List.getElem?_cons_succ, List.set_cons_zero, List.set_cons_succ]
    refine st_pow ⟨by decide, by decide, by decide⟩ ?_
    rw [pow30]
    refine ⟨rfl, D, C, _, rfl, f8.dk, by decide, by decide, fun r S9 r0 r1 f9 => ?_⟩
    refine st_lst (by simp) (nw fun B S10 hB hBB x10 => ?_)
    have f10 := (f8.trans f9).ex x10
    obtain ⟨BD, BC⟩ := f9.dk.neS hB
    refine ⟨rfl, D, C, 8, rfl, f10.dk, by omega, by omega, fun z S11 z0 z1 f11 => ?_⟩
    obtain ⟨v, ev, hv0, hv1⟩ : ∃ v : Int, atI [T.int 0, .int 1, .int 2, .int 3, .int 28, .int 29, .int 30, .int r] z = some (.int v) ∧ 0 ≤ v ∧ v < 10 ^ 30 := by
      obtain ⟨y, ey, hy, _⟩ := atI_ok (xs := [T.int 0, .int 1, .int 2, .int 3, .int 28, .int 29, .int 30, .int r]) z0 (by simp; omega)
      simp only [List.mem_cons, List.not_mem_nil, or_false] at hy
      rcases hy with rfl | rfl | rfl | rfl | rfl | rfl | rfl | rfl
      · exact ⟨_, ey, by omega, by omega⟩
      · exact ⟨_, ey, by omega, by omega⟩
      · exact ⟨_, ey, by omega, by omega⟩
      · exact ⟨_, ey, by omega, by omega⟩
      · exact ⟨_, ey, by omega, by omega⟩
      · exact ⟨_, ey, by omega, by omega⟩
      · exact ⟨_, ey, by omega, by omega⟩
      · exact ⟨_, ey, r0, by omega⟩
    refine st_ixl (f11.kp _ _ BD BC hBB) ev ?_
    have f12 := f10.trans f11
    have hW12 := f12.kp _ _ WD WC hW7
    clear hBB hB x10 f8 f9 f10 f11 ev hW7
    rw [hv4]
    clear hv4
    -- names
    refine seq_cut fun v5 hv5 => ?_
    try simp only [tsNx, tsSeq, tsBrk, tsCt, tsDrop, tsRet, tsRetN, tsIf, tsAsg, tgN, tgsNil, tgsCons, tgTup, tgSub, tsFor, tsWhile, tiSeq, tiRng1, tiRng2, tiZip, tb, tv, tc, tac, tan, ttup, tlst, tq, tand, tor, tnot, tife, tandV, torV, tnotV, tneg, tsl, tno, tpt, tcall, tbi, tml, tml0, tmj, tisi, tlRev, tlRng1, tdisp, tps, tlc_eq, tiEnumS, tixK, tiItems, tiVals, ttYes, bt1, btN, setsT, wipeT, endT, List.getElem?_cons_zero, List.getElem?_cons_succ, List.set_cons_zero, List.set_cons_succ]
    refine ⟨rfl, D, C, 6, rfl, f12.dk, by omega, by omega, fun N names S13 hnl hlow f13 hN hNN => ?_⟩
    obtain ⟨ND, NC⟩ := f12.dk.neS hN
    have hW13 := f13.kp _ _ WD WC hW12
    have dk13 := f13.dk
    clear f12 f13 hW12 hN
    rw [hv5]
    clear hv5
    -- kind
    refine seq_cut fun v6 hv6 => ?_
    try simp only [tsNx, tsSeq, tsBrk, tsCt, tsDrop, tsRet, tsRetN, tsIf, tsAsg, tgN, tgsNil, tgsCons, tgTup, tgSub, tsFor, tsWhile, tiSeq, tiRng1, tiRng2, tiZip, tb, tv, tc, tac, tan, ttup, tlst, tq, tand, tor, tnot, tife, tandV, torV, tnotV, tneg, tsl, tno, tpt, tcall, tbi, tml, tml0, tmj, tisi, tlRev, tlRng1, tdisp, tps, tlc_eq, tiEnumS, tixK, tiItems, tiVals, ttYes, bt1, btN, setsT, wipeT, endT, List.getElem?_cons_zero, List.getElem?_cons_succ, List.set_cons_zero, List.set_cons_succ]
    refine st_sll hNN (nw fun p S14 hp hpp x14 => ?_)
    obtain ⟨b, b', c, c', d, d', hsix⟩ := six (show names.length = 6 from hnl)
    have hpp : S14 p = some (.lst ([b, b'].map T.str)) := by rw [hpp, hsix]; rfl
    obtain ⟨pD, pC⟩ := dk13.neS hp
    have dk14 := dk13.exx x14
    refine ⟨rfl, D, C, 4, rfl, dk14, by omega, by omega, fun m S15 m0 m1 f15 => ?_⟩
    refine ⟨rfl, D, C, p, [b, b'], m, rfl, f15.dk, pD, pC, f15.kp _ _ pD pC hpp, fun x hx => hlow x (by rw [hsix]; simp only [List.mem_cons, List.not_mem_nil, or_false] at hx ⊢; rcases hx with rfl | rfl <;> simp), by simp, by simp, m0, by omega, fun kd S16 hkd f16 => ?_⟩
    have f16' := ((Fr.refl dk13).ex x14).trans (f15.trans f16)
    have hW16 := f16'.kp _ _ WD WC hW13
    have hN16 := f16'.kp _ _ ND NC hNN
    have dk16 := f16'.dk
    clear f16' f16 f15 x14 hpp hp dk14 hW13 hNN dk13
    rw [hv6]
    clear hv6
    -- the term
    refine seq_cut fun v7 hv7 => ?_
    try simp only [tsNx, tsSeq, tsBrk, tsCt, tsDrop, tsRet, tsRetN, tsIf, tsAsg, tgN, tgsNil, tgsCons, tgTup, tgSub, tsFor, tsWhile, tiSeq, tiRng1, tiRng2, tiZip, tb, tv, tc, tac, tan, ttup, tlst, tq, tand, tor, tnot, tife, tandV, torV, tnotV, tneg, tsl, tno, tpt, tcall, tbi, tml, tml0, tmj, tisi, tlRev, tlRng1, tdisp, tps, tlc_eq, tiEnumS, tixK, tiItems, tiVals, ttYes, bt1, btN, setsT, wipeT, endT, List.getElem?_cons_zero, List.getElem?_cons_succ, List.set_cons_zero, List.set_cons_succ]
    refine st_sll hN16 (nw fun L S17 hL hLL x17 => ?_)
    have hLL : S17 L = some (.lst ([b].map T.str)) := by rw [hLL, hsix]; rfl
    obtain ⟨LD, LC⟩ := dk16.neS hL
    have dk17 := dk16.exx x17
    have hN17 := x17 _ _ hN16
    have hW17 := x17 _ _ hW16
    refine ⟨rfl, D, C, N, L, W, names, [b], wordsL, d', 1, rfl, dk17, ND, NC, LD, LC, WD, WC, hN17, hnl, hlow, hLL, hW17, by decide, by decide, words_ok, fun tl S18 htl htools x18 => ?_⟩
    obtain ⟨own, tools⟩ := htools
    refine st_nil (nw fun kn S19 hkn hknn x19 => ?_)
    have dk18 := dk17.exx x18
    obtain ⟨knD, knC⟩ := dk18.neS hkn
    have f19 := (Fr.refl dk18).ex x19
    have hW19 := x19 _ _ (x18 _ _ hW17)
    have hN19 := x19 _ _ (x18 _ _ hN17)
    have Wtl : W ≠ tl := fun z => by rw [← z, hW17] at htl; cases htl
    have Ntl : N ≠ tl := fun z => by rw [← z, hN17] at htl; cases htl
    refine ⟨rfl, D, C, tl, kn, own, kd, rfl, ⟨f19.dk, tools.fr f19, knD, knC, hknn, (fun p hp => by cases hp), hkd, Nat.zero_le _, by decide⟩, fun t S20 ht dk20 kp20 => ?_⟩
    have hW20 := kp20 _ _ WD WC Wtl hW19
    have hN20 := kp20 _ _ ND NC Ntl hN19
    clear kp20 hW19 hN19 Wtl Ntl f19 dk18 hknn x19 hkn x18 hW17 hN17 htl tools dk17 hLL x17 hL hN16 hW16 dk16
    rw [hv7]
    clear hv7
    refine seq_cut fun v8 hv8 => ?_
    have rest : ∀ (t : T) (S' : Sto), TermOk t → S' W = some (.lst (wordsL.map T.str)) → v8 E [some (T.fl (ns.map T.int)), some (.adr W), some (.int (0 + (i : Int))), some (.adr D), some (.bl tw), some (.int v), some (.adr N), some kd.t, some t] S' := by
      intro t S' ht hW'
      rw [hv8]
      clear hv8
      refine seq_cut fun v9 hv9 => ?_
      try simp only [tsNx, tsSeq, tsBrk, tsCt, tsDrop, tsRet, tsRetN, tsIf, tsAsg, tgN, tgsNil, tgsCons, tgTup, tgSub, tsFor, tsWhile, tiSeq, tiRng1, tiRng2, tiZip, tb, tv, tc, tac, tan, ttup, tlst, tq, tand, tor, tnot, tife, tandV, torV, tnotV, tneg, tsl, tno, tpt, tcall, tbi, tml, tml0, tmj, tisi, tlRev, tlRng1, tdisp, tps, tlc_eq, tiEnumS, tixK, tiItems, tiVals, ttYes, bt1, btN, setsT, wipeT, endT, List.getElem?_cons_zero, List.getElem?_cons_succ, List.set_cons_zero, List.set_cons_succ]
      refine ⟨rfl, t, v, rfl, ht, hv0, hv1, fun S2 x2 => ?_⟩
      try simp only [ev_t0, ev_t1, ev_t2, ev_eqs, ev_eqi, ev_intb, ev_inti, ev_add, ev_sub, ev_lt, ev_gt, ev_sl1, ev_in2, ev_lent, ev_isn, Bool.or_false, Bool.or_true, Bool.false_or, Bool.true_or, eqG_f, eqG_t, kq, Bool.not_true, Bool.not_false, if_true, if_false, ite_true, ite_false, reduceIte, s_num_num, s_num_truth, s_num_open, s_num_list, s_num_pair, s_num_either, s_num_left, s_num_right, s_num_thing, s_num_fault, s_num_worth, s_num_table, s_truth_num, s_truth_truth, s_truth_open, s_truth_list, s_truth_pair, s_truth_either, s_truth_left, s_truth_right, s_truth_thing, s_truth_fault, s_truth_worth, s_truth_table, s_open_num, s_open_truth, s_open_open, s_open_list, s_open_pair, s_open_either, s_open_left, s_open_right, s_open_thing, s_open_fault, s_open_worth, s_open_table, s_list_num, s_list_truth, s_list_open, s_list_list, s_list_pair, s_list_either, s_list_left, s_list_right, s_list_thing, s_list_fault, s_list_worth, s_list_table, s_pair_num, s_pair_truth, s_pair_open, s_pair_list, s_pair_pair, s_pair_either, s_pair_left, s_pair_right, s_pair_thing, s_pair_fault, s_pair_worth, s_pair_table, s_either_num, s_either_truth, s_either_open, s_either_list, s_either_pair, s_either_either, s_either_left, s_either_right, s_either_thing, s_either_fault, s_either_worth, s_either_table, s_left_num, s_left_truth, s_left_open, s_left_list, s_left_pair, s_left_either, s_left_left, s_left_right, s_left_thing, s_left_fault, s_left_worth, s_left_table, s_right_num, s_right_truth, s_right_open, s_right_list, s_right_pair, s_right_either, s_right_left, s_right_right, s_right_thing, s_right_fault, s_right_worth, s_right_table, s_thing_num, s_thing_truth, s_thing_open, s_thing_list, s_thing_pair, s_thing_either, s_thing_left, s_thing_right, s_thing_thing, s_thing_fault, s_thing_worth, s_thing_table, s_fault_num, s_fault_truth, s_fault_open, s_fault_list, s_fault_pair, s_fault_either, s_fault_left, s_fault_right, s_fault_thing, s_fault_fault, s_fault_worth, s_fault_table, s_worth_num, s_worth_truth, s_worth_open, s_worth_list, s_worth_pair, s_worth_either, s_worth_left, s_worth_right, s_worth_thing, s_worth_fault, s_worth_worth, s_worth_table, s_table_num, s_table_truth, s_table_open, s_table_list, s_table_pair, s_table_either, s_table_left, s_table_right, s_table_thing, s_table_fault, s_table_worth, s_table_table]
      refine ⟨rfl, t, 0, rfl, ht, by omega, by omega, fun S3 x3 => ?_⟩
      try simp only [ev_t0, ev_t1, ev_t2, ev_eqs, ev_eqi, ev_intb, ev_inti, ev_add, ev_sub, ev_lt, ev_gt, ev_sl1, ev_in2, ev_lent, ev_isn, Bool.or_false, Bool.or_true, Bool.false_or, Bool.true_or, eqG_f, eqG_t, kq, Bool.not_true, Bool.not_false, if_true, if_false, ite_true, ite_false, reduceIte, s_num_num, s_num_truth, s_num_open, s_num_list, s_num_pair, s_num_either, s_num_left, s_num_right, s_num_thing, s_num_fault, s_num_worth, s_num_table, s_truth_num, s_truth_truth, s_truth_open, s_truth_list, s_truth_pair, s_truth_either, s_truth_left, s_truth_right, s_truth_thing, s_truth_fault, s_truth_worth, s_truth_table, s_open_num, s_open_truth, s_open_open, s_open_list, s_open_pair, s_open_either, s_open_left, s_open_right, s_open_thing, s_open_fault, s_open_worth, s_open_table, s_list_num, s_list_truth, s_list_open, s_list_list, s_list_pair, s_list_either, s_list_left, s_list_right, s_list_thing, s_list_fault, s_list_worth, s_list_table, s_pair_num, s_pair_truth, s_pair_open, s_pair_list, s_pair_pair, s_pair_either, s_pair_left, s_pair_right, s_pair_thing, s_pair_fault, s_pair_worth, s_pair_table, s_either_num, s_either_truth, s_either_open, s_either_list, s_either_pair, s_either_either, s_either_left, s_either_right, s_either_thing, s_either_fault, s_either_worth, s_either_table, s_left_num, s_left_truth, s_left_open, s_left_list, s_left_pair, s_left_either, s_left_left, s_left_right, s_left_thing, s_left_fault, s_left_worth, s_left_table, s_right_num, s_right_truth, s_right_open, s_right_list, s_right_pair, s_right_either, s_right_left, s_right_right, s_right_thing, s_right_fault, s_right_worth, s_right_table, s_thing_num, s_thing_truth, s_thing_open, s_thing_list, s_thing_pair, s_thing_either, s_thing_left, s_thing_right, s_thing_thing, s_thing_fault, s_thing_worth, s_thing_table, s_fault_num, s_fault_truth, s_fault_open, s_fault_list, s_fault_pair, s_fault_either, s_fault_left, s_fault_right, s_fault_thing, s_fault_fault, s_fault_worth, s_fault_table, s_worth_num, s_worth_truth, s_worth_open, s_worth_list, s_worth_pair, s_worth_either, s_worth_left, s_worth_right, s_worth_thing, s_worth_fault, s_worth_worth, s_worth_table, s_table_num, s_table_truth, s_table_open, s_table_list, s_table_pair, s_table_either, s_table_left, s_table_right, s_table_thing, s_table_fault, s_table_worth, s_table_table]
      rw [hv9]
      clear hv9
      try simp only [tsNx, tsSeq, tsBrk, tsCt, tsDrop, tsRet, tsRetN, tsIf, tsAsg, tgN, tgsNil, tgsCons, tgTup, tgSub, tsFor, tsWhile, tiSeq, tiRng1, tiRng2, tiZip, tb, tv, tc, tac, tan, ttup, tlst, tq, tand, tor, tnot, tife, tandV, torV, tnotV, tneg, tsl, tno, tpt, tcall, tbi, tml, tml0, tmj, tisi, tlRev, tlRng1, tdisp, tps, tlc_eq, tiEnumS, tixK, tiItems, tiVals, ttYes, bt1, btN, setsT, wipeT, endT, List.getElem?_cons_zero, List.getElem?_cons_succ, List.set_cons_zero, List.set_cons_succ]
      have h1 := ht.more (v := 1) (by omega)
      have h2 := ht.more (v := 2) (by omega)
      refine ⟨rfl, t, 1, rfl, WF.mono ht.1 (by omega), fun S4 x4 => ⟨rfl, _, 1, rfl, WF.mono h1.1 (by omega), fun S5 x5 => ⟨rfl, t, 2, rfl, WF.mono ht.1 (by omega), fun S6 x6 => ?_⟩⟩⟩
      rw [more_more _ _ ht.1]
      have fi := h2.fine
      refine st_eq fi.pu fi.pu (by have := fi.de; omega) ?_
      rw [eqT_refl _ fi.pu]
      simp only [eqG_t, Bool.not_true, kq]
      rw [hE]
      refine ⟨?_, _, _, _, _, _, _, _, rfl⟩
      exact x6 _ _ (x5 _ _ (x4 _ _ (x3 _ _ (x2 _ _ hW'))))
    clear hv8
    try simp only [tsNx, tsSeq, tsBrk, tsCt, tsDrop, tsRet, tsRetN, tsIf, tsAsg, tgN, tgsNil, tgsCons, tgTup, tgSub, tsFor, tsWhile, tiSeq, tiRng1, tiRng2, tiZip, tb, tv, tc, tac, tan, ttup, tlst, tq, tand, tor, tnot, tife, tandV, torV, tnotV, tneg, tsl, tno, tpt, tcall, tbi, tml, tml0, tmj, tisi, tlRev, tlRng1, tdisp, tps, tlc_eq, tiEnumS, tixK, tiItems, tiVals, ttYes, bt1, btN, setsT, wipeT, endT, List.getElem?_cons_zero, List.getElem?_cons_succ, List.set_cons_zero, List.set_cons_succ]
    cases tw with
    | false => exact rest t S20 ht hW20
    | true =>
      simp only [kq]
      refine ⟨rfl, D, C, N, names, rfl, dk20, ND, NC, hN20, hnl, hlow, fun t' S21 ht' f21 => ?_⟩
      exact rest t' S21 ht' (f21.kp _ _ WD WC hW20)
end LAW
set_option Elab.async false
set_option linter.all false
set_option maxRecDepth 100000
set_option maxHeartbeats 4000000
/-! E76: joined (printed by mkE76.py). -/
namespace LAW
open PySem PySem.Spec PyProof.Rows L2 TL
/-- what the top has written -/
structure Top (w : World) (K : PySem.W.Frag) (mg : Str → Option Value) : Prop where
  d_term_spots : ∃ f fd, mg "term_spots" = some (.ref f) ∧ Fun K "term_spots" "term_spots" st_term_spots f fd
  d_inner_terms : ∃ f fd, mg "inner_terms" = some (.ref f) ∧ Fun K "inner_terms" "inner_terms" st_inner_terms f fd
  d_with_inner : ∃ f fd, mg "with_inner" = some (.ref f) ∧ Fun K "with_inner" "with_inner" st_with_inner f fd
  d_more_rounds : ∃ f fd, mg "more_rounds" = some (.ref f) ∧ Fun K "more_rounds" "more_rounds" st_more_rounds f fd
  d_Ldeck : ∃ f fd, mg "_law_deck" = some (.ref f) ∧ Fun K "_law_deck" "_law_deck" st_Ldeck f fd
  d_Ldraw : ∃ f fd, mg "_law_draw" = some (.ref f) ∧ Fun K "_law_draw" "_law_draw" st_Ldraw f fd
  d_Lpick : ∃ f fd, mg "_law_pick" = some (.ref f) ∧ Fun K "_law_pick" "_law_pick" st_Lpick f fd
  d_Lnames : ∃ f fd, mg "_law_names" = some (.ref f) ∧ Fun K "_law_names" "_law_names" st_Lnames f fd
  d_Ldata : ∃ f fd, mg "_law_data" = some (.ref f) ∧ Fun K "_law_data" "_law_data" st_Ldata f fd
  d_Larguments : ∃ f fd, mg "_law_arguments" = some (.ref f) ∧ Fun K "_law_arguments" "_law_arguments" st_Larguments f fd
  d_Lown_shapes : ∃ f fd, mg "_law_own_shapes" = some (.ref f) ∧ Fun K "_law_own_shapes" "_law_own_shapes" st_Lown_shapes f fd
  d_Lother_shapes : ∃ f fd, mg "_law_other_shapes" = some (.ref f) ∧ Fun K "_law_other_shapes" "_law_other_shapes" st_Lother_shapes f fd
  d_Lcall_shapes : ∃ f fd, mg "_law_call_shapes" = some (.ref f) ∧ Fun K "_law_call_shapes" "_law_call_shapes" st_Lcall_shapes f fd
  d_Lfilled : ∃ f fd, mg "_law_filled" = some (.ref f) ∧ Fun K "_law_filled" "_law_filled" st_Lfilled f fd
  d_Lmake : ∃ f fd, mg "_law_make" = some (.ref f) ∧ Fun K "_law_make" "_law_make" st_Lmake f fd
  d_Lmeasured : ∃ f fd, mg "_law_measured" = some (.ref f) ∧ Fun K "_law_measured" "_law_measured" st_Lmeasured f fd
  d_Lterm : ∃ f fd, mg "_law_term" = some (.ref f) ∧ Fun K "_law_term" "_law_term" st_Lterm f fd
  d_Ltools : ∃ f fd, mg "_law_tools" = some (.ref f) ∧ Fun K "_law_tools" "_law_tools" st_Ltools f fd
  d_Ldata_function : ∃ f fd, mg "_law_data_function" = some (.ref f) ∧ Fun K "_law_data_function" "_law_data_function" st_Ldata_function f fd
  d_Lmore : ∃ f fd, mg "_law_more" = some (.ref f) ∧ Fun K "_law_more" "_law_more" st_Lmore f fd
  d_Ltower : ∃ f fd, mg "_law_tower" = some (.ref f) ∧ Fun K "_law_tower" "_law_tower" st_Ltower f fd
  d_Lright : ∃ f fd, mg "_law_right" = some (.ref f) ∧ Fun K "_law_right" "_law_right" st_Lright f fd
  d_law : ∃ f fd, mg "law" = some (.ref f) ∧ Fun K "law" "law" st_law f fd
  n_dict : mg "dict" = none
  n_enumerate : mg "enumerate" = none
  n_int : mg "int" = none
  n_isinstance : mg "isinstance" = none
  n_len : mg "len" = none
  n_list : mg "list" = none
  n_max : mg "max" = none
  n_min : mg "min" = none
  n_range : mg "range" = none
  n_repr : mg "repr" = none
  n_reversed : mg "reversed" = none
  n_sum : mg "sum" = none
  n_tuple : mg "tuple" = none
  n_zip : mg "zip" = none
  most : ∃ u, mg "MOST_ROUNDS" = some u ∧ ∀ (P : Program), Glo ⟨P, w, K⟩ u (.int 30)
  forms : ∃ u, mg "FORMS" = some u ∧ ∀ (P : Program), KDt ⟨P, w, K⟩ u formsF
section
variable {P : Program} {w : World} {K : PySem.W.Frag} {mg : Str → Option Value} {base : Heap}
theorem c_Ldraw (T : Top w K mg) : Cal P w K mg base 1 "_law_draw" 2 spDraw := by
  obtain ⟨f, fd, hm, F⟩ := T.d_Ldraw
  exact cal_def F hm sc_Ldraw (F.binds fun _ _ _ _ _ _ us hl => match us, hl with | [_, _], _ => rfl) (fun cdv A outer s H E hr hgd => b_Ldraw (k := 0) hr hgd ) vc_draw
theorem c_Ldeck (T : Top w K mg) : Cal P w K mg base 1 "_law_deck" 1 spDeck := by
  obtain ⟨f, fd, hm, F⟩ := T.d_Ldeck
  exact cal_def F hm sc_Ldeck (F.binds fun _ _ _ _ _ _ us hl => match us, hl with | [_], _ => rfl) (fun cdv A outer s H E hr hgd => b_Ldeck (k := 0) hr hgd (n_len := T.n_len) (n_list := T.n_list) (n_reversed := T.n_reversed) (n_sum := T.n_sum)) vc_deck
theorem c_Lpick (T : Top w K mg) : Cal P w K mg base 2 "_law_pick" 2 spPick := by
  obtain ⟨f, fd, hm, F⟩ := T.d_Lpick
  exact cal_def F hm sc_Lpick (F.binds fun _ _ _ _ _ _ us hl => match us, hl with | [_, _], _ => rfl) (fun cdv A outer s H E hr hgd => b_Lpick (k := 1) hr hgd (c_Ldraw := c_Ldraw T) (n_len := T.n_len)) vc_pick
theorem c_Lnames (T : Top w K mg) : Cal P w K mg base 2 "_law_names" 2 spNames := by
  obtain ⟨f, fd, hm, F⟩ := T.d_Lnames
  exact cal_def F hm sc_Lnames (F.binds fun _ _ _ _ _ _ us hl => match us, hl with | [_, _], _ => rfl) (fun cdv A outer s H E hr hgd => b_Lnames (k := 1) hr hgd (c_Ldraw := c_Ldraw T) (n_len := T.n_len) (n_range := T.n_range)) vc_names
theorem c_Ltower (T : Top w K mg) : Cal P w K mg base 2 "_law_tower" 2 spTower := by
  obtain ⟨f, fd, hm, F⟩ := T.d_Ltower
  exact cal_def F hm sc_Ltower (F.binds fun _ _ _ _ _ _ us hl => match us, hl with | [_, _], _ => rfl) (fun cdv A outer s H E hr hgd => b_Ltower (k := 1) hr hgd (c_Ldraw := c_Ldraw T) (n_range := T.n_range)) vc_tower
theorem c_Ltools (T : Top w K mg) : Cal P w K mg base 1 "_law_tools" 4 spTools := by
  obtain ⟨f, fd, hm, F⟩ := T.d_Ltools
  exact cal_def F hm sc_Ltools (F.binds fun _ _ _ _ _ _ us hl => match us, hl with | [_, _, _, _], _ => rfl) (fun cdv A outer s H E hr hgd => b_Ltools (k := 0) hr hgd ) vc_tools
theorem c_Larguments (T : Top w K mg) : Cal P w K mg base 1 "_law_arguments" 1 spArgs := by
  obtain ⟨f, fd, hm, F⟩ := T.d_Larguments
  exact cal_def F hm sc_Larguments (F.binds fun _ _ _ _ _ _ us hl => match us, hl with | [_], _ => rfl) (fun cdv A outer s H E hr hgd => b_Larguments (k := 0) hr hgd ) vc_args
theorem c_Lcall_shapes (T : Top w K mg) : Cal P w K mg base 2 "_law_call_shapes" 2 spCalls := by
  obtain ⟨f, fd, hm, F⟩ := T.d_Lcall_shapes
  exact cal_def F hm sc_Lcall_shapes (F.binds fun _ _ _ _ _ _ us hl => match us, hl with | [_, _], _ => rfl) (fun cdv A outer s H E hr hgd => b_Lcall_shapes (k := 1) hr hgd (c_Larguments := c_Larguments T) (n_dict := T.n_dict)) vc_calls
theorem c_Lown_shapes (T : Top w K mg) : Cal P w K mg base 3 "_law_own_shapes" 4 spOwn := by
  obtain ⟨f, fd, hm, F⟩ := T.d_Lown_shapes
  exact cal_def F hm sc_Lown_shapes (F.binds fun _ _ _ _ _ _ us hl => match us, hl with | [_, _, _, _], _ => rfl) (fun cdv A outer s H E hr hgd => b_Lown_shapes (k := 2) hr hgd (c_Ldraw := (c_Ldraw T).mono (by omega)) (c_Lpick := c_Lpick T) (n_dict := T.n_dict)) vc_own
theorem c_Lother_shapes (T : Top w K mg) : Cal P w K mg base 3 "_law_other_shapes" 4 spOther := by
  obtain ⟨f, fd, hm, F⟩ := T.d_Lother_shapes
  exact cal_def F hm sc_Lother_shapes (F.binds fun _ _ _ _ _ _ us hl => match us, hl with | [_, _, _, _], _ => rfl) (fun cdv A outer s H E hr hgd => b_Lother_shapes (k := 2) hr hgd (c_Ldraw := (c_Ldraw T).mono (by omega)) (c_Lpick := c_Lpick T) (n_dict := T.n_dict) (n_int := T.n_int) (n_len := T.n_len) (n_list := T.n_list)) vc_other
theorem c_term_spots (T : Top w K mg) : Cal P w K mg base 1 "term_spots" 1 spSpots := by
  obtain ⟨f, fd, hm, F⟩ := T.d_term_spots
  obtain ⟨u1, hu1, hG1⟩ := T.forms
  exact cal_def F hm sc_term_spots (F.binds fun _ _ _ _ _ _ us hl => match us, hl with | [_], _ => rfl) (fun cdv A outer s H E hr hgd => b_term_spots (k := 0) hr hgd (n_enumerate := T.n_enumerate) (m_FORMS := hu1) (D_FORMS := hG1 P)) vc_spots
theorem c_inner_terms (T : Top w K mg) : Cal P w K mg base 2 "inner_terms" 1 spInner := by
  obtain ⟨f, fd, hm, F⟩ := T.d_inner_terms
  exact cal_def F hm sc_inner_terms (F.binds fun _ _ _ _ _ _ us hl => match us, hl with | [_], _ => rfl) (fun cdv A outer s H E hr hgd => b_inner_terms (k := 1) hr hgd (c_term_spots := c_term_spots T)) vc_inner
theorem c_with_inner (T : Top w K mg) : Cal P w K mg base 2 "with_inner" 2 spWith := by
  obtain ⟨f, fd, hm, F⟩ := T.d_with_inner
  exact cal_def F hm sc_with_inner (F.binds fun _ _ _ _ _ _ us hl => match us, hl with | [_, _], _ => rfl) (fun cdv A outer s H E hr hgd => b_with_inner (k := 1) hr hgd (c_term_spots := c_term_spots T) (n_list := T.n_list) (n_tuple := T.n_tuple) (n_zip := T.n_zip)) vc_with
theorem c_more_rounds (T : Top w K mg) : ∀ n : Nat, Cal P w K mg base (n + 2) "more_rounds" 2 (spRounds n)
  | 0 => by
    obtain ⟨f, fd, hm, F⟩ := T.d_more_rounds
    exact cal_none (ps := P_more_rounds) hm F.kp (F.binds fun _ _ _ _ _ _ us hl => match us, hl with | [_, _], _ => rfl) fun ts S Q h => by
      obtain ⟨_, _, _, h1, _⟩ := h
      exact h1
  | n + 1 => by
    obtain ⟨f, fd, hm, F⟩ := T.d_more_rounds
    obtain ⟨u2, hu2, hG2⟩ := T.most
    exact cal_def F hm sc_more_rounds (F.binds fun _ _ _ _ _ _ us hl => match us, hl with | [_, _], _ => rfl) (fun cdv A outer s H E hr hgd => b_more_rounds (k := n + 2) hr hgd (c_with_inner := (c_with_inner T).mono (by omega)) (c_inner_terms := (c_inner_terms T).mono (by omega)) (c_more_rounds := c_more_rounds T n) (n_min := T.n_min) (m_MOST_ROUNDS := hu2) (G_MOST_ROUNDS := hG2 P)) (vc_rounds n)
theorem c_Lmore (T : Top w K mg) : ∀ n : Nat, Cal P w K mg base n "_law_more" 2 (spLmore n)
  | 0 => by
    obtain ⟨f, fd, hm, F⟩ := T.d_Lmore
    exact cal_none (ps := P_Lmore) hm F.kp (F.binds fun _ _ _ _ _ _ us hl => match us, hl with | [_, _], _ => rfl) fun ts S Q h => by
      obtain ⟨_, _, _, _, h1, _⟩ := h
      exact Nat.not_lt_zero _ h1
  | n + 1 => by
    obtain ⟨f, fd, hm, F⟩ := T.d_Lmore
    exact cal_def F hm sc_Lmore (F.binds fun _ _ _ _ _ _ us hl => match us, hl with | [_, _], _ => rfl) (fun cdv A outer s H E hr hgd => b_Lmore (k := n) hr hgd (c_Lmore := c_Lmore T n) (n_isinstance := T.n_isinstance) (n_len := T.n_len) (n_min := T.n_min) (n_tuple := T.n_tuple)) (vc_lmore n)
theorem c_Lmeasured (T : Top w K mg) : ∀ n : Nat, Cal P w K mg base n "_law_measured" 1 (spMeasured n)
  | 0 => by
    obtain ⟨f, fd, hm, F⟩ := T.d_Lmeasured
    exact cal_none (ps := P_Lmeasured) hm F.kp (F.binds fun _ _ _ _ _ _ us hl => match us, hl with | [_], _ => rfl) fun ts S Q h => by
      obtain ⟨_, _, h1, _⟩ := h
      exact h1
  | n + 1 => by
    obtain ⟨f, fd, hm, F⟩ := T.d_Lmeasured
    exact cal_def F hm sc_Lmeasured (F.binds fun _ _ _ _ _ _ us hl => match us, hl with | [_], _ => rfl) (fun cdv A outer s H E hr hgd => b_Lmeasured (k := n) hr hgd (c_Lmeasured := c_Lmeasured T n) (n_len := T.n_len) (n_list := T.n_list) (n_max := T.n_max) (n_range := T.n_range) (n_sum := T.n_sum)) (vc_measured n)
theorem c_Ldata (T : Top w K mg) : ∀ n : Nat, Cal P w K mg base (n + 2) "_law_data" 4 (spData n)
  | 0 => by
    obtain ⟨f, fd, hm, F⟩ := T.d_Ldata
    exact cal_none (ps := P_Ldata) hm F.kp (F.binds fun _ _ _ _ _ _ us hl => match us, hl with | [_, _, _, _], _ => rfl) fun ts S Q h => by
      obtain ⟨_, _, _, _, _, _, _, _, _, _, _, _, _, h1, h2, _⟩ := h
      omega
  | n + 1 => by
    obtain ⟨f, fd, hm, F⟩ := T.d_Ldata
    exact cal_def F hm sc_Ldata (F.binds fun _ _ _ _ _ _ us hl => match us, hl with | [_, _, _, _], _ => rfl) (fun cdv A outer s H E hr hgd => b_Ldata (k := n + 2) hr hgd (c_Ldata := c_Ldata T n) (c_Lpick := (c_Lpick T).mono (by omega)) (c_Ldraw := (c_Ldraw T).mono (by omega)) (n_int := T.n_int)) (vc_data n)
theorem c_Ldata_function (T : Top w K mg) : Cal P w K mg base 6 "_law_data_function" 3 spDataF := by
  obtain ⟨f, fd, hm, F⟩ := T.d_Ldata_function
  exact cal_def F hm sc_Ldata_function (F.binds fun _ _ _ _ _ _ us hl => match us, hl with | [_, _, _], _ => rfl) (fun cdv A outer s H E hr hgd => b_Ldata_function (k := 5) hr hgd (c_Ldata := c_Ldata T 3) (n_range := T.n_range)) (vc_dataF 3 (by decide))
theorem lev40 (d : Int) (h : Nat) : 40 ≤ lev d h := by unfold lev; split <;> omega
theorem c_mf (T : Top w K mg) : ∀ n : Nat, Cal P w K mg base (n + 3) "_law_make" 5 (spMake n) ∧ Cal P w K mg base (n + 3) "_law_filled" 5 (spFilled n)
  | 0 => ⟨by
    obtain ⟨f, fd, hm, F⟩ := T.d_Lmake
    exact cal_none (ps := P_Lmake) hm F.kp (F.binds fun _ _ _ _ _ _ us hl => match us, hl with | [_, _, _, _, _], _ => rfl) fun ts S Q h => by
      obtain ⟨_, _, _, _, _, _, kd, d, _, _, h1, _⟩ := h
      have := lev40 d kd.h
      omega, by
    obtain ⟨f, fd, hm, F⟩ := T.d_Lfilled
    exact cal_none (ps := P_Lfilled) hm F.kp (F.binds fun _ _ _ _ _ _ us hl => match us, hl with | [_, _, _, _, _], _ => rfl) fun ts S Q h => by
      obtain ⟨_, _, _, _, _, _, _, _, _, _, h1⟩ := h
      rcases h1 with ⟨_, h1, _⟩ | ⟨_, _, _, _, _, h1, _⟩
      · exact Nat.not_lt_zero _ h1
      · omega⟩
  | n + 1 => ⟨by
    obtain ⟨f, fd, hm, F⟩ := T.d_Lmake
    exact cal_def F hm sc_Lmake (F.binds fun _ _ _ _ _ _ us hl => match us, hl with | [_, _, _, _, _], _ => rfl) (fun cdv A outer s H E hr hgd => b_Lmake (k := n + 3) hr hgd (c_Lfilled := (c_mf T n).2) (c_Lpick := (c_Lpick T).mono (by omega)) (c_Lown_shapes := (c_Lown_shapes T).mono (by omega)) (c_Lother_shapes := (c_Lother_shapes T).mono (by omega)) (c_Lcall_shapes := (c_Lcall_shapes T).mono (by omega)) (c_Ldraw := (c_Ldraw T).mono (by omega)) (n_dict := T.n_dict) (n_int := T.n_int) (n_len := T.n_len) (n_repr := T.n_repr)) (vc_make n), by
    obtain ⟨f, fd, hm, F⟩ := T.d_Lfilled
    exact cal_def F hm sc_Lfilled (F.binds fun _ _ _ _ _ _ us hl => match us, hl with | [_, _, _, _, _], _ => rfl) (fun cdv A outer s H E hr hgd => b_Lfilled (k := n + 3) hr hgd (c_Lfilled := (c_mf T n).2) (c_Lmake := (c_mf T n).1) (n_isinstance := T.n_isinstance) (n_list := T.n_list) (n_tuple := T.n_tuple)) (vc_filled n)⟩
theorem c_Lterm (T : Top w K mg) : Cal P w K mg base 167 "_law_term" 5 spTerm := by
  obtain ⟨f, fd, hm, F⟩ := T.d_Lterm
  exact cal_def F hm sc_Lterm (F.binds fun _ _ _ _ _ _ us hl => match us, hl with | [_, _, _, _, _], _ => rfl) (fun cdv A outer s H E hr hgd => b_Lterm (k := 166) hr hgd (c_Lmake := (c_mf T 163).1) (c_Lmeasured := (c_Lmeasured T 163).mono (by omega)) (n_range := T.n_range)) (vc_term 163 (by decide))
theorem c_Lright (T : Top w K mg) : Cal P w K mg base 103 "_law_right" 2 spRight := by
  obtain ⟨f, fd, hm, F⟩ := T.d_Lright
  exact cal_def F hm sc_Lright (F.binds fun _ _ _ _ _ _ us hl => match us, hl with | [_, _], _ => rfl) (fun cdv A outer s H E hr hgd => b_Lright (k := 102) hr hgd (c_more_rounds := c_more_rounds T 100) (c_Lmore := (c_Lmore T 100).mono (by omega)) (n_isinstance := T.n_isinstance) (n_range := T.n_range) (n_repr := T.n_repr) (n_tuple := T.n_tuple)) (vc_right 100 (by decide))
theorem c_law (T : Top w K mg) : Cal P w K mg base 168 "law" 1 spLaw := by
  obtain ⟨f, fd, hm, F⟩ := T.d_law
  exact cal_def F hm sc_law (F.binds fun _ _ _ _ _ _ us hl => match us, hl with | [_], _ => rfl) (fun cdv A outer s H E hr hgd => b_law (k := 167) hr hgd (c_more_rounds := (c_more_rounds T 163).mono (by omega)) (c_Lright := (c_Lright T).mono (by omega)) (c_Ltower := (c_Ltower T).mono (by omega)) (c_Lterm := c_Lterm T) (c_Ltools := (c_Ltools T).mono (by omega)) (c_Ldata_function := (c_Ldata_function T).mono (by omega)) (c_Ldraw := (c_Ldraw T).mono (by omega)) (c_Lnames := (c_Lnames T).mono (by omega)) (c_Ldeck := (c_Ldeck T).mono (by omega)) (n_len := T.n_len) (n_max := T.n_max) (n_min := T.n_min) (n_range := T.n_range)) (vc_law 163 (by decide))
end
theorem top_mk {w : World} {K : PySem.W.Frag} {h : Heap} {mg : Str → Option Value} (X : K.In h) (G : h.Ns mainGlobals mg) {f0 : Addr} {od0 an0 : Option Addr} {sl0 : Array (Option Value)} {oc0 kV0 dc0 pm0 cd0 ct0 : Value} {f1 : Addr} {od1 an1 : Option Addr} {sl1 : Array (Option Value)} {oc1 kV1 dc1 pm1 cd1 ct1 : Value} {f2 : Addr} {od2 an2 : Option Addr} {sl2 : Array (Option Value)} {oc2 kV2 dc2 pm2 cd2 ct2 : Value} {f3 : Addr} {od3 an3 : Option Addr} {sl3 : Array (Option Value)} {oc3 kV3 dc3 pm3 cd3 ct3 : Value} {f4 : Addr} {od4 an4 : Option Addr} {sl4 : Array (Option Value)} {oc4 kV4 dc4 pm4 cd4 ct4 : Value} {f5 : Addr} {od5 an5 : Option Addr} {sl5 : Array (Option Value)} {oc5 kV5 dc5 pm5 cd5 ct5 : Value} {f6 : Addr} {od6 an6 : Option Addr} {sl6 : Array (Option Value)} {oc6 kV6 dc6 pm6 cd6 ct6 : Value} {f7 : Addr} {od7 an7 : Option Addr} {sl7 : Array (Option Value)} {oc7 kV7 dc7 pm7 cd7 ct7 : Value} {f8 : Addr} {od8 an8 : Option Addr} {sl8 : Array (Option Value)} {oc8 kV8 dc8 pm8 cd8 ct8 : Value} {f9 : Addr} {od9 an9 : Option Addr} {sl9 : Array (Option Value)} {oc9 kV9 dc9 pm9 cd9 ct9 : Value} {f10 : Addr} {od10 an10 : Option Addr} {sl10 : Array (Option Value)} {oc10 kV10 dc10 pm10 cd10 ct10 : Value} {f11 : Addr} {od11 an11 : Option Addr} {sl11 : Array (Option Value)} {oc11 kV11 dc11 pm11 cd11 ct11 : Value} {f12 : Addr} {od12 an12 : Option Addr} {sl12 : Array (Option Value)} {oc12 kV12 dc12 pm12 cd12 ct12 : Value} {f13 : Addr} {od13 an13 : Option Addr} {sl13 : Array (Option Value)} {oc13 kV13 dc13 pm13 cd13 ct13 : Value} {f14 : Addr} {od14 an14 : Option Addr} {sl14 : Array (Option Value)} {oc14 kV14 dc14 pm14 cd14 ct14 : Value} {f15 : Addr} {od15 an15 : Option Addr} {sl15 : Array (Option Value)} {oc15 kV15 dc15 pm15 cd15 ct15 : Value} {f16 : Addr} {od16 an16 : Option Addr} {sl16 : Array (Option Value)} {oc16 kV16 dc16 pm16 cd16 ct16 : Value} {f17 : Addr} {od17 an17 : Option Addr} {sl17 : Array (Option Value)} {oc17 kV17 dc17 pm17 cd17 ct17 : Value} {f18 : Addr} {od18 an18 : Option Addr} {sl18 : Array (Option Value)} {oc18 kV18 dc18 pm18 cd18 ct18 : Value} {f19 : Addr} {od19 an19 : Option Addr} {sl19 : Array (Option Value)} {oc19 kV19 dc19 pm19 cd19 ct19 : Value} {f20 : Addr} {od20 an20 : Option Addr} {sl20 : Array (Option Value)} {oc20 kV20 dc20 pm20 cd20 ct20 : Value} {f21 : Addr} {od21 an21 : Option Addr} {sl21 : Array (Option Value)} {oc21 kV21 dc21 pm21 cd21 ct21 : Value} {f22 : Addr} {od22 an22 : Option Addr} {sl22 : Array (Option Value)} {oc22 kV22 dc22 pm22 cd22 ct22 : Value} {fF : Addr} {tkM tk0 tk1 tk2 tk3 tk4 tk5 tk6 tk7 tk8 tk9 tk10 tk11 tk12 tk13 tk14 tk15 tk16 tk17 tk18 tk19 tk20 : Tok} {nF : Nat} {esF : Array DictEntry}
    (a0 : PySem.W.nsIn K mainGlobals "term_spots" = some (some (.ref f0))) (l0 : K.lookup f0 = some ⟨oc0, od0, .func (PySem.W.fnOf "term_spots" "term_spots" (defArgs st_term_spots) (defBody st_term_spots) (defScope st_term_spots) .none kV0 dc0 pm0 an0 cd0 ct0), sl0⟩) (e0 : PySem.W.codeIn K cd0 "term_spots" = true) (k0 : PySem.W.keepIn K (.ref f0) = true)
    (a1 : PySem.W.nsIn K mainGlobals "inner_terms" = some (some (.ref f1))) (l1 : K.lookup f1 = some ⟨oc1, od1, .func (PySem.W.fnOf "inner_terms" "inner_terms" (defArgs st_inner_terms) (defBody st_inner_terms) (defScope st_inner_terms) .none kV1 dc1 pm1 an1 cd1 ct1), sl1⟩) (e1 : PySem.W.codeIn K cd1 "inner_terms" = true) (k1 : PySem.W.keepIn K (.ref f1) = true)
    (a2 : PySem.W.nsIn K mainGlobals "with_inner" = some (some (.ref f2))) (l2 : K.lookup f2 = some ⟨oc2, od2, .func (PySem.W.fnOf "with_inner" "with_inner" (defArgs st_with_inner) (defBody st_with_inner) (defScope st_with_inner) .none kV2 dc2 pm2 an2 cd2 ct2), sl2⟩) (e2 : PySem.W.codeIn K cd2 "with_inner" = true) (k2 : PySem.W.keepIn K (.ref f2) = true)
    (a3 : PySem.W.nsIn K mainGlobals "more_rounds" = some (some (.ref f3))) (l3 : K.lookup f3 = some ⟨oc3, od3, .func (PySem.W.fnOf "more_rounds" "more_rounds" (defArgs st_more_rounds) (defBody st_more_rounds) (defScope st_more_rounds) .none kV3 dc3 pm3 an3 cd3 ct3), sl3⟩) (e3 : PySem.W.codeIn K cd3 "more_rounds" = true) (k3 : PySem.W.keepIn K (.ref f3) = true)
    (a4 : PySem.W.nsIn K mainGlobals "_law_deck" = some (some (.ref f4))) (l4 : K.lookup f4 = some ⟨oc4, od4, .func (PySem.W.fnOf "_law_deck" "_law_deck" (defArgs st_Ldeck) (defBody st_Ldeck) (defScope st_Ldeck) .none kV4 dc4 pm4 an4 cd4 ct4), sl4⟩) (e4 : PySem.W.codeIn K cd4 "_law_deck" = true) (k4 : PySem.W.keepIn K (.ref f4) = true)
    (a5 : PySem.W.nsIn K mainGlobals "_law_draw" = some (some (.ref f5))) (l5 : K.lookup f5 = some ⟨oc5, od5, .func (PySem.W.fnOf "_law_draw" "_law_draw" (defArgs st_Ldraw) (defBody st_Ldraw) (defScope st_Ldraw) .none kV5 dc5 pm5 an5 cd5 ct5), sl5⟩) (e5 : PySem.W.codeIn K cd5 "_law_draw" = true) (k5 : PySem.W.keepIn K (.ref f5) = true)
    (a6 : PySem.W.nsIn K mainGlobals "_law_pick" = some (some (.ref f6))) (l6 : K.lookup f6 = some ⟨oc6, od6, .func (PySem.W.fnOf "_law_pick" "_law_pick" (defArgs st_Lpick) (defBody st_Lpick) (defScope st_Lpick) .none kV6 dc6 pm6 an6 cd6 ct6), sl6⟩) (e6 : PySem.W.codeIn K cd6 "_law_pick" = true) (k6 : PySem.W.keepIn K (.ref f6) = true)
    (a7 : PySem.W.nsIn K mainGlobals "_law_names" = some (some (.ref f7))) (l7 : K.lookup f7 = some ⟨oc7, od7, .func (PySem.W.fnOf "_law_names" "_law_names" (defArgs st_Lnames) (defBody st_Lnames) (defScope st_Lnames) .none kV7 dc7 pm7 an7 cd7 ct7), sl7⟩) (e7 : PySem.W.codeIn K cd7 "_law_names" = true) (k7 : PySem.W.keepIn K (.ref f7) = true)
    (a8 : PySem.W.nsIn K mainGlobals "_law_data" = some (some (.ref f8))) (l8 : K.lookup f8 = some ⟨oc8, od8, .func (PySem.W.fnOf "_law_data" "_law_data" (defArgs st_Ldata) (defBody st_Ldata) (defScope st_Ldata) .none kV8 dc8 pm8 an8 cd8 ct8), sl8⟩) (e8 : PySem.W.codeIn K cd8 "_law_data" = true) (k8 : PySem.W.keepIn K (.ref f8) = true)
    (a9 : PySem.W.nsIn K mainGlobals "_law_arguments" = some (some (.ref f9))) (l9 : K.lookup f9 = some ⟨oc9, od9, .func (PySem.W.fnOf "_law_arguments" "_law_arguments" (defArgs st_Larguments) (defBody st_Larguments) (defScope st_Larguments) .none kV9 dc9 pm9 an9 cd9 ct9), sl9⟩) (e9 : PySem.W.codeIn K cd9 "_law_arguments" = true) (k9 : PySem.W.keepIn K (.ref f9) = true)
    (a10 : PySem.W.nsIn K mainGlobals "_law_own_shapes" = some (some (.ref f10))) (l10 : K.lookup f10 = some ⟨oc10, od10, .func (PySem.W.fnOf "_law_own_shapes" "_law_own_shapes" (defArgs st_Lown_shapes) (defBody st_Lown_shapes) (defScope st_Lown_shapes) .none kV10 dc10 pm10 an10 cd10 ct10), sl10⟩) (e10 : PySem.W.codeIn K cd10 "_law_own_shapes" = true) (k10 : PySem.W.keepIn K (.ref f10) = true)
    (a11 : PySem.W.nsIn K mainGlobals "_law_other_shapes" = some (some (.ref f11))) (l11 : K.lookup f11 = some ⟨oc11, od11, .func (PySem.W.fnOf "_law_other_shapes" "_law_other_shapes" (defArgs st_Lother_shapes) (defBody st_Lother_shapes) (defScope st_Lother_shapes) .none kV11 dc11 pm11 an11 cd11 ct11), sl11⟩) (e11 : PySem.W.codeIn K cd11 "_law_other_shapes" = true) (k11 : PySem.W.keepIn K (.ref f11) = true)
    (a12 : PySem.W.nsIn K mainGlobals "_law_call_shapes" = some (some (.ref f12))) (l12 : K.lookup f12 = some ⟨oc12, od12, .func (PySem.W.fnOf "_law_call_shapes" "_law_call_shapes" (defArgs st_Lcall_shapes) (defBody st_Lcall_shapes) (defScope st_Lcall_shapes) .none kV12 dc12 pm12 an12 cd12 ct12), sl12⟩) (e12 : PySem.W.codeIn K cd12 "_law_call_shapes" = true) (k12 : PySem.W.keepIn K (.ref f12) = true)
    (a13 : PySem.W.nsIn K mainGlobals "_law_filled" = some (some (.ref f13))) (l13 : K.lookup f13 = some ⟨oc13, od13, .func (PySem.W.fnOf "_law_filled" "_law_filled" (defArgs st_Lfilled) (defBody st_Lfilled) (defScope st_Lfilled) .none kV13 dc13 pm13 an13 cd13 ct13), sl13⟩) (e13 : PySem.W.codeIn K cd13 "_law_filled" = true) (k13 : PySem.W.keepIn K (.ref f13) = true)
    (a14 : PySem.W.nsIn K mainGlobals "_law_make" = some (some (.ref f14))) (l14 : K.lookup f14 = some ⟨oc14, od14, .func (PySem.W.fnOf "_law_make" "_law_make" (defArgs st_Lmake) (defBody st_Lmake) (defScope st_Lmake) .none kV14 dc14 pm14 an14 cd14 ct14), sl14⟩) (e14 : PySem.W.codeIn K cd14 "_law_make" = true) (k14 : PySem.W.keepIn K (.ref f14) = true)
    (a15 : PySem.W.nsIn K mainGlobals "_law_measured" = some (some (.ref f15))) (l15 : K.lookup f15 = some ⟨oc15, od15, .func (PySem.W.fnOf "_law_measured" "_law_measured" (defArgs st_Lmeasured) (defBody st_Lmeasured) (defScope st_Lmeasured) .none kV15 dc15 pm15 an15 cd15 ct15), sl15⟩) (e15 : PySem.W.codeIn K cd15 "_law_measured" = true) (k15 : PySem.W.keepIn K (.ref f15) = true)
    (a16 : PySem.W.nsIn K mainGlobals "_law_term" = some (some (.ref f16))) (l16 : K.lookup f16 = some ⟨oc16, od16, .func (PySem.W.fnOf "_law_term" "_law_term" (defArgs st_Lterm) (defBody st_Lterm) (defScope st_Lterm) .none kV16 dc16 pm16 an16 cd16 ct16), sl16⟩) (e16 : PySem.W.codeIn K cd16 "_law_term" = true) (k16 : PySem.W.keepIn K (.ref f16) = true)
    (a17 : PySem.W.nsIn K mainGlobals "_law_tools" = some (some (.ref f17))) (l17 : K.lookup f17 = some ⟨oc17, od17, .func (PySem.W.fnOf "_law_tools" "_law_tools" (defArgs st_Ltools) (defBody st_Ltools) (defScope st_Ltools) .none kV17 dc17 pm17 an17 cd17 ct17), sl17⟩) (e17 : PySem.W.codeIn K cd17 "_law_tools" = true) (k17 : PySem.W.keepIn K (.ref f17) = true)
    (a18 : PySem.W.nsIn K mainGlobals "_law_data_function" = some (some (.ref f18))) (l18 : K.lookup f18 = some ⟨oc18, od18, .func (PySem.W.fnOf "_law_data_function" "_law_data_function" (defArgs st_Ldata_function) (defBody st_Ldata_function) (defScope st_Ldata_function) .none kV18 dc18 pm18 an18 cd18 ct18), sl18⟩) (e18 : PySem.W.codeIn K cd18 "_law_data_function" = true) (k18 : PySem.W.keepIn K (.ref f18) = true)
    (a19 : PySem.W.nsIn K mainGlobals "_law_more" = some (some (.ref f19))) (l19 : K.lookup f19 = some ⟨oc19, od19, .func (PySem.W.fnOf "_law_more" "_law_more" (defArgs st_Lmore) (defBody st_Lmore) (defScope st_Lmore) .none kV19 dc19 pm19 an19 cd19 ct19), sl19⟩) (e19 : PySem.W.codeIn K cd19 "_law_more" = true) (k19 : PySem.W.keepIn K (.ref f19) = true)
    (a20 : PySem.W.nsIn K mainGlobals "_law_tower" = some (some (.ref f20))) (l20 : K.lookup f20 = some ⟨oc20, od20, .func (PySem.W.fnOf "_law_tower" "_law_tower" (defArgs st_Ltower) (defBody st_Ltower) (defScope st_Ltower) .none kV20 dc20 pm20 an20 cd20 ct20), sl20⟩) (e20 : PySem.W.codeIn K cd20 "_law_tower" = true) (k20 : PySem.W.keepIn K (.ref f20) = true)
    (a21 : PySem.W.nsIn K mainGlobals "_law_right" = some (some (.ref f21))) (l21 : K.lookup f21 = some ⟨oc21, od21, .func (PySem.W.fnOf "_law_right" "_law_right" (defArgs st_Lright) (defBody st_Lright) (defScope st_Lright) .none kV21 dc21 pm21 an21 cd21 ct21), sl21⟩) (e21 : PySem.W.codeIn K cd21 "_law_right" = true) (k21 : PySem.W.keepIn K (.ref f21) = true)
    (a22 : PySem.W.nsIn K mainGlobals "law" = some (some (.ref f22))) (l22 : K.lookup f22 = some ⟨oc22, od22, .func (PySem.W.fnOf "law" "law" (defArgs st_law) (defBody st_law) (defScope st_law) .none kV22 dc22 pm22 an22 cd22 ct22), sl22⟩) (e22 : PySem.W.codeIn K cd22 "law" = true) (k22 : PySem.W.keepIn K (.ref f22) = true)
    (aM : PySem.W.nsIn K mainGlobals "MOST_ROUNDS" = some (some (.int 30 tkM))) (aF : PySem.W.nsIn K mainGlobals "FORMS" = some (some (.ref fF))) (lF : K.lookup fF = some ⟨.type "dict", none, .dict esF nF, #[]⟩) (yF : PySem.W.KeysLit w.params esF.toList) (qf0 : PySem.W.nsIn K fF "name" = some (some (.str (Str.ofString "x") tk0))) (qf1 : PySem.W.nsIn K fF "fun" = some (some (.str (Str.ofString "xat") tk1))) (qf2 : PySem.W.nsIn K fF "call" = some (some (.str (Str.ofString "tt") tk2))) (qf3 : PySem.W.nsIn K fF "num" = some (some (.str (Str.ofString "k") tk3))) (qf4 : PySem.W.nsIn K fF "plus" = some (some (.str (Str.ofString "tt") tk4))) (qf5 : PySem.W.nsIn K fF "less" = some (some (.str (Str.ofString "tt") tk5))) (qf6 : PySem.W.nsIn K fF "truth" = some (some (.str (Str.ofString "b") tk6))) (qf7 : PySem.W.nsIn K fF "if" = some (some (.str (Str.ofString "ttt") tk7))) (qf8 : PySem.W.nsIn K fF "pair" = some (some (.str (Str.ofString "tt") tk8))) (qf9 : PySem.W.nsIn K fF "first" = some (some (.str (Str.ofString "t") tk9))) (qf10 : PySem.W.nsIn K fF "second" = some (some (.str (Str.ofString "t") tk10))) (qf11 : PySem.W.nsIn K fF "left" = some (some (.str (Str.ofString "td") tk11))) (qf12 : PySem.W.nsIn K fF "right" = some (some (.str (Str.ofString "dt") tk12))) (qf13 : PySem.W.nsIn K fF "case" = some (some (.str (Str.ofString "txtxt") tk13))) (qf14 : PySem.W.nsIn K fF "none" = some (some (.str (Str.ofString "d") tk14))) (qf15 : PySem.W.nsIn K fF "more" = some (some (.str (Str.ofString "tt") tk15))) (qf16 : PySem.W.nsIn K fF "fold" = some (some (.str (Str.ofString "ttxxt") tk16))) (qf17 : PySem.W.nsIn K fF "built" = some (some (.str (Str.ofString "dxxxt") tk17))) (qf18 : PySem.W.nsIn K fF "alike" = some (some (.str (Str.ofString "tt") tk18))) (qf19 : PySem.W.nsIn K fF "fault" = some (some (.str (Str.ofString "d") tk19))) (qf20 : PySem.W.nsIn K fF "rounds" = some (some (.str (Str.ofString "rtxt") tk20))) (z0 : PySem.W.nsIn K mainGlobals "dict" = some none) (z1 : PySem.W.nsIn K mainGlobals "enumerate" = some none) (z2 : PySem.W.nsIn K mainGlobals "int" = some none) (z3 : PySem.W.nsIn K mainGlobals "isinstance" = some none) (z4 : PySem.W.nsIn K mainGlobals "len" = some none) (z5 : PySem.W.nsIn K mainGlobals "list" = some none) (z6 : PySem.W.nsIn K mainGlobals "max" = some none) (z7 : PySem.W.nsIn K mainGlobals "min" = some none) (z8 : PySem.W.nsIn K mainGlobals "range" = some none) (z9 : PySem.W.nsIn K mainGlobals "repr" = some none) (z10 : PySem.W.nsIn K mainGlobals "reversed" = some none) (z11 : PySem.W.nsIn K mainGlobals "sum" = some none) (z12 : PySem.W.nsIn K mainGlobals "tuple" = some none) (z13 : PySem.W.nsIn K mainGlobals "zip" = some none) : Top w K mg where
  d_term_spots := ⟨f0, _, PySem.W.mg_of X G a0, fun_mk (st := st_term_spots) l0 e0 k0⟩
  d_inner_terms := ⟨f1, _, PySem.W.mg_of X G a1, fun_mk (st := st_inner_terms) l1 e1 k1⟩
  d_with_inner := ⟨f2, _, PySem.W.mg_of X G a2, fun_mk (st := st_with_inner) l2 e2 k2⟩
  d_more_rounds := ⟨f3, _, PySem.W.mg_of X G a3, fun_mk (st := st_more_rounds) l3 e3 k3⟩
  d_Ldeck := ⟨f4, _, PySem.W.mg_of X G a4, fun_mk (st := st_Ldeck) l4 e4 k4⟩
  d_Ldraw := ⟨f5, _, PySem.W.mg_of X G a5, fun_mk (st := st_Ldraw) l5 e5 k5⟩
  d_Lpick := ⟨f6, _, PySem.W.mg_of X G a6, fun_mk (st := st_Lpick) l6 e6 k6⟩
  d_Lnames := ⟨f7, _, PySem.W.mg_of X G a7, fun_mk (st := st_Lnames) l7 e7 k7⟩
  d_Ldata := ⟨f8, _, PySem.W.mg_of X G a8, fun_mk (st := st_Ldata) l8 e8 k8⟩
  d_Larguments := ⟨f9, _, PySem.W.mg_of X G a9, fun_mk (st := st_Larguments) l9 e9 k9⟩
  d_Lown_shapes := ⟨f10, _, PySem.W.mg_of X G a10, fun_mk (st := st_Lown_shapes) l10 e10 k10⟩
  d_Lother_shapes := ⟨f11, _, PySem.W.mg_of X G a11, fun_mk (st := st_Lother_shapes) l11 e11 k11⟩
  d_Lcall_shapes := ⟨f12, _, PySem.W.mg_of X G a12, fun_mk (st := st_Lcall_shapes) l12 e12 k12⟩
  d_Lfilled := ⟨f13, _, PySem.W.mg_of X G a13, fun_mk (st := st_Lfilled) l13 e13 k13⟩
  d_Lmake := ⟨f14, _, PySem.W.mg_of X G a14, fun_mk (st := st_Lmake) l14 e14 k14⟩
  d_Lmeasured := ⟨f15, _, PySem.W.mg_of X G a15, fun_mk (st := st_Lmeasured) l15 e15 k15⟩
  d_Lterm := ⟨f16, _, PySem.W.mg_of X G a16, fun_mk (st := st_Lterm) l16 e16 k16⟩
  d_Ltools := ⟨f17, _, PySem.W.mg_of X G a17, fun_mk (st := st_Ltools) l17 e17 k17⟩
  d_Ldata_function := ⟨f18, _, PySem.W.mg_of X G a18, fun_mk (st := st_Ldata_function) l18 e18 k18⟩
  d_Lmore := ⟨f19, _, PySem.W.mg_of X G a19, fun_mk (st := st_Lmore) l19 e19 k19⟩
  d_Ltower := ⟨f20, _, PySem.W.mg_of X G a20, fun_mk (st := st_Ltower) l20 e20 k20⟩
  d_Lright := ⟨f21, _, PySem.W.mg_of X G a21, fun_mk (st := st_Lright) l21 e21 k21⟩
  d_law := ⟨f22, _, PySem.W.mg_of X G a22, fun_mk (st := st_law) l22 e22 k22⟩
  n_dict := PySem.W.mg_none_of X G z0
  n_enumerate := PySem.W.mg_none_of X G z1
  n_int := PySem.W.mg_none_of X G z2
  n_isinstance := PySem.W.mg_none_of X G z3
  n_len := PySem.W.mg_none_of X G z4
  n_list := PySem.W.mg_none_of X G z5
  n_max := PySem.W.mg_none_of X G z6
  n_min := PySem.W.mg_none_of X G z7
  n_range := PySem.W.mg_none_of X G z8
  n_repr := PySem.W.mg_none_of X G z9
  n_reversed := PySem.W.mg_none_of X G z10
  n_sum := PySem.W.mg_none_of X G z11
  n_tuple := PySem.W.mg_none_of X G z12
  n_zip := PySem.W.mg_none_of X G z13
  most := ⟨_, PySem.W.mg_of X G aM, fun P => ⟨.int 30, ⟨tkM, rfl⟩, fun H => by rw [rt_int]⟩⟩
  forms := ⟨_, PySem.W.mg_of X G aF, fun P => ⟨fF, esF, nF, rfl, lF, yF, fun x t e => by
    have all : ∀ r ∈ formsL, ∃ tk, PySem.W.nsIn K fF r.1 = some (some (.str r.2 tk)) := by
      unfold formsL
      intro r hr
      simp only [List.mem_cons, List.not_mem_nil, or_false] at hr
      rcases hr with rfl | rfl | rfl | rfl | rfl | rfl | rfl | rfl | rfl | rfl | rfl | rfl | rfl | rfl | rfl | rfl | rfl | rfl | rfl | rfl | rfl
      · exact ⟨tk0, qf0⟩
      · exact ⟨tk1, qf1⟩
      · exact ⟨tk2, qf2⟩
      · exact ⟨tk3, qf3⟩
      · exact ⟨tk4, qf4⟩
      · exact ⟨tk5, qf5⟩
      · exact ⟨tk6, qf6⟩
      · exact ⟨tk7, qf7⟩
      · exact ⟨tk8, qf8⟩
      · exact ⟨tk9, qf9⟩
      · exact ⟨tk10, qf10⟩
      · exact ⟨tk11, qf11⟩
      · exact ⟨tk12, qf12⟩
      · exact ⟨tk13, qf13⟩
      · exact ⟨tk14, qf14⟩
      · exact ⟨tk15, qf15⟩
      · exact ⟨tk16, qf16⟩
      · exact ⟨tk17, qf17⟩
      · exact ⟨tk18, qf18⟩
      · exact ⟨tk19, qf19⟩
      · exact ⟨tk20, qf20⟩
    unfold formsF formOf at e
    cases q : formsL.find? fun r => decide (r.1 = x) with
    | none => rw [q] at e; cases e
    | some r =>
      rw [q] at e
      cases e
      obtain ⟨tk, hk⟩ := all r (List.mem_of_find?_eq_some q)
      have h2 : r.1 = x := by simpa using List.find?_some q
      rw [h2] at hk
      exact ⟨_, hk, ⟨.str r.2, ⟨tk, rfl⟩, fun H => by rw [rt_str]⟩⟩⟩⟩
theorem walk {l : PySem.W.OpenLaw} {q : Program} {loose : List Str} {XP : (Str → Option Value) → Heap → Prop} {YP : World → Heap → Prop} {d : DefRec} {K : Params → PySem.W.Frag} (hn : l.most = some 63) (hdf : d.params.defaults = [])
    (hY : ∀ (w : World) (h : Heap), YP w h → (K w.params).In h)
    (F : ∀ (w : World) (mg : Str → Option Value) (fa : Addr) (h : Heap), (K w.params).In h → h.Ns mainGlobals mg → mg d.name = some (.ref fa) → mg "law" = some (.ref fa) ∧ Top w (K w.params) mg) :
    PySem.W.WalkO q loose XP YP l.row.toRowW d [] (fun f vs => PySem.call f vs) :=
  walk_G (n := 63) (k := 168) (x := "law") hn (by decide) hdf ⟨rfl, by decide, by decide⟩ fun w mg fa h Y G hm =>
    let r := F w mg fa h (hY w h Y) G hm
    ⟨K w.params, spLaw, hY w h Y, r.1, fun ns hl => ⟨ns, rfl, hl, fun _ => rfl⟩, fun base _ _ => c_law r.2⟩
end LAW
open PySem PySem.W PyProof.Rows
set_option maxRecDepth 100000 in
set_option maxHeartbeats 0 in
theorem PySem.Challenge.cw_kindalone_k76_more_rounds_in_terms_holds : PySem.Challenge.rw_kindalone_k76_more_rounds_in_terms.Holds := by
  w_on; o_law; k_head; (case hw => w_witness2)
  k_fill
  refine LAW.walk (l := PySem.Challenge.rw_kindalone_k76_more_rounds_in_terms) rfl rfl (fun w h Y => PySem.W.kIn_of Y) ?F
  case F =>
    intro w mg fa h KX G hmg
    refine ⟨hmg, ?_⟩
    refine' LAW.top_mk KX G ?a0 ?l0 ?e0 ?k0 ?a1 ?l1 ?e1 ?k1 ?a2 ?l2 ?e2 ?k2 ?a3 ?l3 ?e3 ?k3 ?a4 ?l4 ?e4 ?k4 ?a5 ?l5 ?e5 ?k5 ?a6 ?l6 ?e6 ?k6 ?a7 ?l7 ?e7 ?k7 ?a8 ?l8 ?e8 ?k8 ?a9 ?l9 ?e9 ?k9 ?a10 ?l10 ?e10 ?k10 ?a11 ?l11 ?e11 ?k11 ?a12 ?l12 ?e12 ?k12 ?a13 ?l13 ?e13 ?k13 ?a14 ?l14 ?e14 ?k14 ?a15 ?l15 ?e15 ?k15 ?a16 ?l16 ?e16 ?k16 ?a17 ?l17 ?e17 ?k17 ?a18 ?l18 ?e18 ?k18 ?a19 ?l19 ?e19 ?k19 ?a20 ?l20 ?e20 ?k20 ?a21 ?l21 ?e21 ?k21 ?a22 ?l22 ?e22 ?k22 ?aM ?aF ?lF ?yF ?qf0 ?qf1 ?qf2 ?qf3 ?qf4 ?qf5 ?qf6 ?qf7 ?qf8 ?qf9 ?qf10 ?qf11 ?qf12 ?qf13 ?qf14 ?qf15 ?qf16 ?qf17 ?qf18 ?qf19 ?qf20 ?z0 ?z1 ?z2 ?z3 ?z4 ?z5 ?z6 ?z7 ?z8 ?z9 ?z10 ?z11 ?z12 ?z13
    (case a0 => k_is)
    (case l0 => k_is)
    (case e0 => k_is)
    (case k0 => k_is)
    (case a1 => k_is)
    (case l1 => k_is)
    (case e1 => k_is)
    (case k1 => k_is)
    (case a2 => k_is)
    (case l2 => k_is)
    (case e2 => k_is)
    (case k2 => k_is)
    (case a3 => k_is)
    (case l3 => k_is)
    (case e3 => k_is)
    (case k3 => k_is)
    (case a4 => k_is)
    (case l4 => k_is)
    (case e4 => k_is)
    (case k4 => k_is)
    (case a5 => k_is)
    (case l5 => k_is)
    (case e5 => k_is)
    (case k5 => k_is)
    (case a6 => k_is)
    (case l6 => k_is)
    (case e6 => k_is)
    (case k6 => k_is)
    (case a7 => k_is)
    (case l7 => k_is)
    (case e7 => k_is)
    (case k7 => k_is)
    (case a8 => k_is)
    (case l8 => k_is)
    (case e8 => k_is)
    (case k8 => k_is)
    (case a9 => k_is)
    (case l9 => k_is)
    (case e9 => k_is)
    (case k9 => k_is)
    (case a10 => k_is)
    (case l10 => k_is)
    (case e10 => k_is)
    (case k10 => k_is)
    (case a11 => k_is)
    (case l11 => k_is)
    (case e11 => k_is)
    (case k11 => k_is)
    (case a12 => k_is)
    (case l12 => k_is)
    (case e12 => k_is)
    (case k12 => k_is)
    (case a13 => k_is)
    (case l13 => k_is)
    (case e13 => k_is)
    (case k13 => k_is)
    (case a14 => k_is)
    (case l14 => k_is)
    (case e14 => k_is)
    (case k14 => k_is)
    (case a15 => k_is)
    (case l15 => k_is)
    (case e15 => k_is)
    (case k15 => k_is)
    (case a16 => k_is)
    (case l16 => k_is)
    (case e16 => k_is)
    (case k16 => k_is)
    (case a17 => k_is)
    (case l17 => k_is)
    (case e17 => k_is)
    (case k17 => k_is)
    (case a18 => k_is)
    (case l18 => k_is)
    (case e18 => k_is)
    (case k18 => k_is)
    (case a19 => k_is)
    (case l19 => k_is)
    (case e19 => k_is)
    (case k19 => k_is)
    (case a20 => k_is)
    (case l20 => k_is)
    (case e20 => k_is)
    (case k20 => k_is)
    (case a21 => k_is)
    (case l21 => k_is)
    (case e21 => k_is)
    (case k21 => k_is)
    (case a22 => k_is)
    (case l22 => k_is)
    (case e22 => k_is)
    (case k22 => k_is)
    (case aM => k_is)
    (case aF => k_is)
    (case lF => k_is)
    (case yF => k_keys)
    (case qf0 => k_is)
    (case qf1 => k_is)
    (case qf2 => k_is)
    (case qf3 => k_is)
    (case qf4 => k_is)
    (case qf5 => k_is)
    (case qf6 => k_is)
    (case qf7 => k_is)
    (case qf8 => k_is)
    (case qf9 => k_is)
    (case qf10 => k_is)
    (case qf11 => k_is)
    (case qf12 => k_is)
    (case qf13 => k_is)
    (case qf14 => k_is)
    (case qf15 => k_is)
    (case qf16 => k_is)
    (case qf17 => k_is)
    (case qf18 => k_is)
    (case qf19 => k_is)
    (case qf20 => k_is)
    (case z0 => k_is)
    (case z1 => k_is)
    (case z2 => k_is)
    (case z3 => k_is)
    (case z4 => k_is)
    (case z5 => k_is)
    (case z6 => k_is)
    (case z7 => k_is)
    (case z8 => k_is)
    (case z9 => k_is)
    (case z10 => k_is)
    (case z11 => k_is)
    (case z12 => k_is)
    (case z13 => k_is)
#print axioms PySem.Challenge.cw_kindalone_k76_more_rounds_in_terms_holds
