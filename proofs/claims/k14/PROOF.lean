import PyProof.Rows.All
import HandS.ForMost
import HandS.Wide
import HandS.TupAny
import HandS.IsInst
import KE.KDictKeyed
import HandS.Deep
import HandS.Walk
import HandS.Style
import HandS.Iter
import HandS.Comp
import HandS.Codes
import HandS.Conv
import Wide.All
import OpenK.AllK
import Wide.FinOn
import PySem.Challenge.RW_wardenworks_k14_readings_of_values
set_option Elab.async false
set_option linter.all false
set_option maxRecDepth 100000
set_option maxHeartbeats 2000000
/-! Values as plain data: what represents what, and environments. -/
namespace Wd
open PySem PySem.Spec L2

abbrev D := PyData

/-! ### keys of dicts -/
mutual
def keyOf : D → Option NestedKey
  | .none => some .none
  | .bool b => some (.num (if b = true then 1 else 0))
  | .int i => some (.num i)
  | .str x => some (.text x)
  | .tuple ds => (keysOf ds).map .tup
  | .list _ => none
  | .dict _ => none
def keysOf : List D → Option (List NestedKey)
  | [] => some []
  | d :: ds => match keyOf d, keysOf ds with
    | some k, some ks => some (k :: ks)
    | _, _ => none
end
/-- a scalar key -/
def sKey : D → Bool
  | .int _ => true
  | .str _ => true
  | _ => false
/-- a tuple as a key -/
def tKey (d : D) : Bool := match d with
  | .tuple _ => (match keyOf d with
    | some k => decide (k.depth ≤ 8)
    | none => false)
  | _ => false

/-! ### representation -/
/-- the script: a list that is only read -/
def scrD (ns : List Int) : D := .dict ((.none, .none) :: ns.map fun n => (.none, .int n))
/-- a list that stays as it is: locked or written -/
def SqF (K : PySem.W.Frag) (H : Hp) (a : Addr) (xs : List V) : Prop := (∃ o, H a = some (.frz o (.lst xs))) ∨ SqL K (fun _ => none) a xs
/-- the object at a is just o -/
def isO (a : Addr) (o : Obj) : HO := .ext fun h => h.get? a = some o

mutual
inductive Rep (K : PySem.W.Frag) (w : World) (G : Addr → Prop) (H : Hp) : V → D → Prop
  | non : Rep K w G H .non .none
  | bl (b : Bool) : Rep K w G H (.bl b) (.bool b)
  | int (i : Int) : Rep K w G H (.int i) (.int i)
  | str (x : Str) : Rep K w G H (.str x) (.str x)
  | tup {a : Addr} {xs : List V} {ds : List D} : SqT K H a xs → RepL K w G H xs ds → Rep K w G H (.ref a) (.tuple ds)
  | lst {a : Addr} {xs : List V} {ds : List D} : G a → H a = some (.lst xs) → RepL K w G H xs ds → Rep K w G H (.ref a) (.list ds)
  | dic {a : Addr} {o : Obj} {es : Array DictEntry} {ep : Nat} {kvs : List (D × D)} : G a → H a = some (isO a o) → o.ExactDict → o.data = .dict es ep → EntL K w G H es.toList kvs →
      (kvs.map fun p => keyOf p.1).Nodup → kvs.length ≤ sizeLine → (a == sysModules) = false → (kvs.all (fun p => sKey p.1) || kvs.all (fun p => tKey p.1)) = true → Rep K w G H (.ref a) (.dict kvs)
  | scr {a : Addr} {ns : List Int} : SqF K H a (ns.map V.int) → Rep K w G H (.ref a) (scrD ns)
inductive RepL (K : PySem.W.Frag) (w : World) (G : Addr → Prop) (H : Hp) : List V → List D → Prop
  | nil : RepL K w G H [] []
  | cons {v : V} {vs : List V} {d : D} {ds : List D} : Rep K w G H v d → RepL K w G H vs ds → RepL K w G H (v :: vs) (d :: ds)
inductive EntL (K : PySem.W.Frag) (w : World) (G : Addr → Prop) (H : Hp) : List DictEntry → List (D × D) → Prop
  | nil : EntL K w G H [] []
  | cons {e : DictEntry} {es : List DictEntry} {vk vv : V} {dk dv : D} {k : NestedKey} {kvs : List (D × D)} : RelV vk e.key → Rep K w G H vk dk → keyOf dk = some k → e.hash = k.hash w → RelV vv e.val → Rep K w G H vv dv →
      EntL K w G H es kvs → EntL K w G H (e :: es) ((dk, dv) :: kvs)
end

/-- what a heap keeps for another -/
structure Kp (K : PySem.W.Frag) (G G' : Addr → Prop) (H H' : Hp) : Prop where
  tup : ∀ b xs, H b = some (.tup xs) → H' b = some (.tup xs)
  frz : ∀ b o u, H b = some (.frz o u) → H' b = some (.frz o u)
  at_ : ∀ b o, G b → H b = some o → H' b = some o
  gd : ∀ b, G b → H b ≠ none → G' b
theorem Kp.seqT {K : PySem.W.Frag} {G G' : Addr → Prop} {H H' : Hp} (k : Kp K G G' H H') {a : Addr} {xs : List V} (h : SqT K H a xs) : SqT K H' a xs := by
  rcases h with (h | ⟨o, h⟩) | h
  · exact .inl (.inl (k.tup _ _ h))
  · exact .inl (.inr ⟨o, k.frz _ _ _ h⟩)
  · exact .inr h
theorem Kp.seqF {K : PySem.W.Frag} {G G' : Addr → Prop} {H H' : Hp} (k : Kp K G G' H H') {a : Addr} {xs : List V} (h : SqF K H a xs) : SqF K H' a xs := by
  rcases h with ⟨o, h⟩ | h
  · exact .inl ⟨o, k.frz _ _ _ h⟩
  · exact .inr h
section
variable {K : PySem.W.Frag} {w : World} {G G' : Addr → Prop} {H H' : Hp}
mutual
theorem Rep.keep (k : Kp K G G' H H') : ∀ {v : V} {d : D}, Rep K w G H v d → Rep K w G' H' v d
  | _, _, .non => .non
  | _, _, .bl b => .bl b
  | _, _, .int i => .int i
  | _, _, .str x => .str x
  | _, _, .tup h r => .tup (k.seqT h) (RepL.keep k r)
  | _, _, .lst g h r => .lst (k.gd _ g (by rw [h]; exact fun z => nomatch z)) (k.at_ _ _ g h) (RepL.keep k r)
  | _, _, .dic g h e1 e2 r n z s c => .dic (k.gd _ g (by rw [h]; exact fun z => nomatch z)) (k.at_ _ _ g h) e1 e2 (EntL.keep k r) n z s c
  | _, _, .scr h => .scr (k.seqF h)
theorem RepL.keep (k : Kp K G G' H H') : ∀ {vs : List V} {ds : List D}, RepL K w G H vs ds → RepL K w G' H' vs ds
  | _, _, .nil => .nil
  | _, _, .cons h r => .cons (Rep.keep k h) (RepL.keep k r)
theorem EntL.keep (k : Kp K G G' H H') : ∀ {es : List DictEntry} {kvs : List (D × D)}, EntL K w G H es kvs → EntL K w G' H' es kvs
  | _, _, .nil => .nil
  | _, _, .cons h1 h2 h3 h4 h5 h6 r => .cons h1 (Rep.keep k h2) h3 h4 h5 (Rep.keep k h6) (EntL.keep k r)
end
theorem Kp.same (s : Same H H') (g : ∀ b, G b → H b ≠ none → G' b) : Kp K G G' H H' := ⟨fun b xs h => s b _ h, fun b o u h => s b _ h, fun b o _ h => s b o h, g⟩
theorem Kp.refl (g : ∀ b, G b → H b ≠ none → G' b) : Kp K G G' H H := .same (Same.refl H) g
theorem Rep.same (s : Same H H') {v : V} {d : D} (r : Rep K w G H v d) : Rep K w G H' v d := r.keep (.same s fun _ g _ => g)
theorem RepL.same (s : Same H H') {v : List V} {d : List D} (r : RepL K w G H v d) : RepL K w G H' v d := r.keep (.same s fun _ g _ => g)
theorem RepL.length : ∀ {vs : List V} {ds : List D}, RepL K w G H vs ds → vs.length = ds.length
  | _, _, .nil => rfl
  | _, _, .cons _ r => congrArg (· + 1) (RepL.length r)
theorem RepL.get : ∀ {vs : List V} {ds : List D} {i : Nat} {d : D}, RepL K w G H vs ds → ds[i]? = some d → ∃ v, vs[i]? = some v ∧ Rep K w G H v d
  | _, _, _, _, .nil, e => by simp at e
  | _, _, 0, _, .cons r _, e => by simp at e; subst e; exact ⟨_, rfl, r⟩
  | _, _, i + 1, d, .cons _ t, e => by
    obtain ⟨u, h1, h2⟩ := RepL.get (i := i) (d := d) t (by simpa using e)
    exact ⟨u, by simpa using h1, h2⟩
theorem RepL.append : ∀ {vs us : List V} {ds es : List D}, RepL K w G H vs ds → RepL K w G H us es → RepL K w G H (vs ++ us) (ds ++ es)
  | _, _, _, _, .nil, s => s
  | _, _, _, _, .cons r t, s => .cons r (RepL.append t s)
theorem RepL.one {v : V} {d : D} (r : Rep K w G H v d) : RepL K w G H [v] [d] := .cons r .nil
theorem RepL.drop : ∀ {vs : List V} {ds : List D} (n : Nat), RepL K w G H vs ds → RepL K w G H (vs.drop n) (ds.drop n)
  | _, _, 0, r => r
  | _, _, _ + 1, .nil => .nil
  | _, _, n + 1, .cons _ t => RepL.drop n t
theorem RepL.take : ∀ {vs : List V} {ds : List D} (n : Nat), RepL K w G H vs ds → RepL K w G H (vs.take n) (ds.take n)
  | _, _, 0, _ => .nil
  | _, _, _ + 1, .nil => .nil
  | _, _, n + 1, .cons r t => .cons r (RepL.take n t)
theorem RepL.set {v : V} {d : D} (q : Rep K w G H v d) : ∀ {vs : List V} {ds : List D} (n : Nat), RepL K w G H vs ds → RepL K w G H (vs.set n v) (ds.set n d)
  | _, _, 0, .nil => .nil
  | _, _, _ + 1, .nil => .nil
  | _, _, 0, .cons _ t => .cons q t
  | _, _, n + 1, .cons r t => .cons r (RepL.set q n t)
theorem RepL.reverse : ∀ {vs : List V} {ds : List D}, RepL K w G H vs ds → RepL K w G H vs.reverse ds.reverse
  | _, _, .nil => .nil
  | _, _, .cons r t => by
    rw [List.reverse_cons, List.reverse_cons]
    exact (RepL.reverse t).append (.one r)
theorem RepL.dropLast {vs : List V} {ds : List D} (r : RepL K w G H vs ds) : RepL K w G H vs.dropLast ds.dropLast := by
  rw [List.dropLast_eq_take, List.dropLast_eq_take, ← r.length]
  exact r.take _
theorem RepL.rep {vs : List V} {ds : List D} (r : RepL K w G H vs ds) : ∀ k : Nat, RepL K w G H (List.replicate k vs).flatten (List.replicate k ds).flatten
  | 0 => .nil
  | k + 1 => by
    rw [List.replicate_succ, List.replicate_succ, List.flatten_cons, List.flatten_cons]
    exact r.append (RepL.rep r k)
end

/-! ### environments -/
inductive C where
  | un
  | val (d : D)
  | own (d : D)
abbrev Rho := List C
def getR (ρ : Rho) (i : Nat) : Option D := match ρ[i]? with
  | some (.val d) => some d
  | some (.own d) => some d
  | _ => none

/-- a fresh object's content -/
inductive Top (K : PySem.W.Frag) (w : World) (G : Addr → Prop) (H : Hp) (a : Addr) : D → Prop
  | lst {xs : List V} {ds : List D} : H a = some (.lst xs) → RepL K w G H xs ds → Top K w G H a (.list ds)
  | dic {o : Obj} {es : Array DictEntry} {ep : Nat} {kvs : List (D × D)} : H a = some (isO a o) → o.ExactDict → o.data = .dict es ep → EntL K w G H es.toList kvs →
      (kvs.map fun p => keyOf p.1).Nodup → kvs.length ≤ sizeLine → (a == sysModules) = false → (kvs.all (fun p => sKey p.1) || kvs.all (fun p => tKey p.1)) = true → Top K w G H a (.dict kvs)
theorem Top.rep {K : PySem.W.Frag} {w : World} {G G' : Addr → Prop} {H : Hp} {a : Addr} {d : D} (t : Top K w G H a d) (ga : G' a) (gg : ∀ b, G b → G' b) : Rep K w G' H (.ref a) d := by
  cases t with
  | lst h r => exact .lst ga h (r.keep (.refl fun b g _ => gg b g))
  | dic h e1 e2 r n z s c => exact .dic ga h e1 e2 (r.keep (.refl fun b g _ => gg b g)) n z s c
theorem Top.keep {K : PySem.W.Frag} {w : World} {G G' : Addr → Prop} {H H' : Hp} {a : Addr} {d : D} (t : Top K w G H a d) (k : Kp K G G' H H') (ha : ∀ o, H a = some o → H' a = some o) : Top K w G' H' a d := by
  cases t with
  | lst h r => exact .lst (ha _ h) (r.keep k)
  | dic h e1 e2 r n z s c => exact .dic (ha _ h) e1 e2 (r.keep k) n z s c
theorem Top.there {K : PySem.W.Frag} {w : World} {G : Addr → Prop} {H : Hp} {a : Addr} {d : D} (t : Top K w G H a d) : ∃ o, H a = some o ∧ Mut (some o) := by
  cases t with
  | lst h r => exact ⟨_, h, True.intro⟩
  | dic h e1 e2 r n z s c => exact ⟨_, h, True.intro⟩

/-- which slots own which addresses -/
abbrev Ow := Nat → Option Addr
/-- addresses that a value may hold: the arguments' or new ones; owned ones only of the slots ls -/
def Gd (A0 : Addr → Prop) (_ : Hp) (oa : Ow) (ls : List Nat) (b : Addr) : Prop := A0 b ∧ ∀ i, oa i = some b → i ∈ ls
theorem Gd.mono {A0 : Addr → Prop} {H0 : Hp} {oa : Ow} {ls ls' : List Nat} (h : ∀ i ∈ ls, i ∈ ls') {b : Addr} (g : Gd A0 H0 oa ls b) : Gd A0 H0 oa ls' b := ⟨g.1, fun i e => h i (g.2 i e)⟩

structure EnvOk (K : PySem.W.Frag) (w : World) (A0 : Addr → Prop) (H0 : Hp) (oa : Ow) (H : Hp) (σ : St) (ρ : Rho) : Prop where
  len : σ.length = ρ.length
  same : Same H0 H
  new : ∀ b, H b = none → A0 b
  ownA : ∀ (i : Nat) (a : Addr), oa i = some a → A0 a
  own : ∀ (i : Nat) (a : Addr), oa i = some a → H0 a = none ∧ ∃ d : D, ρ[i]? = some (C.own d) ∧ σ[i]? = some (some (.ref a)) ∧ Top K w (Gd A0 H0 oa []) H a d
  inj : ∀ (i j : Nat) (a : Addr), oa i = some a → oa j = some a → i = j
  has : ∀ (i : Nat) (d : D), ρ[i]? = some (C.own d) → ∃ a, oa i = some a
  val : ∀ (i : Nat) (d : D), ρ[i]? = some (C.val d) → ∃ v, σ[i]? = some (some v) ∧ Rep K w (Gd A0 H0 oa []) H v d
section
variable {K : PySem.W.Frag} {w : World} {A0 : Addr → Prop} {H0 H H' : Hp} {oa : Ow} {σ : St} {ρ : Rho}
theorem EnvOk.ext (E : EnvOk K w A0 H0 oa H σ ρ) (s : Same H H') : EnvOk K w A0 H0 oa H' σ ρ where
  len := E.len
  same := E.same.trans s
  new := fun b n => E.new b (s.free n)
  ownA := E.ownA
  own := fun i a e => by
    obtain ⟨n, d, e1, e2, t⟩ := E.own i a e
    exact ⟨n, d, e1, e2, t.keep (.same s fun _ g _ => g) fun o h => s _ _ h⟩
  inj := E.inj
  has := E.has
  val := fun i d e => by
    obtain ⟨v, e1, r⟩ := E.val i d e
    exact ⟨v, e1, r.same s⟩
/-- a slot read -/
theorem EnvOk.get (E : EnvOk K w A0 H0 oa H σ ρ) {i : Nat} {d : D} (h : getR ρ i = some d) : ∃ v, σ[i]? = some (some v) ∧ Rep K w (Gd A0 H0 oa [i]) H v d := by
  unfold getR at h
  split at h
  · next d' e =>
    cases h
    obtain ⟨v, e1, r⟩ := E.val i _ e
    exact ⟨v, e1, r.keep (.refl fun b g _ => g.mono (by simp))⟩
  · next d' e =>
    cases h
    obtain ⟨a, ea⟩ := E.has i _ e
    obtain ⟨n, d2, e1, e2, t⟩ := E.own i a ea
    rw [e] at e1; cases e1
    exact ⟨_, e2, t.rep ⟨E.ownA i a ea, fun j ej => by rw [E.inj j i a ej ea]; exact List.mem_singleton.mpr rfl⟩ fun b g => g.mono (by simp)⟩
  · cases h
end

/-! ### expressions -/
structure Ex where
  ev : Rho → Option (D × Bool)
  /-- whose owned objects the value may be or hold -/
  lk : List Nat
  /-- whose owned objects its items may be or hold -/
  il : List Nat
/-- the value, its top object apart -/
def RepT (K : PySem.W.Frag) (w : World) (G : Addr → Prop) (H : Hp) (v : V) (d : D) : Prop := Rep K w G H v d ∨ ∃ a, v = .ref a ∧ Top K w G H a d
theorem RepT.keep {K : PySem.W.Frag} {w : World} {G G' : Addr → Prop} {H H' : Hp} {v : V} {d : D} (r : RepT K w G H v d) (s : Same H H') (g : ∀ b, G b → H b ≠ none → G' b) : RepT K w G' H' v d := by
  rcases r with r | ⟨a, e, t⟩
  · exact .inl (r.keep (.same s g))
  · exact .inr ⟨a, e, t.keep (.same s g) fun o h => s _ _ h⟩
theorem RepT.lst_inv {K : PySem.W.Frag} {w : World} {G : Addr → Prop} {H : Hp} {v : V} {ds : List D} (r : RepT K w G H v (.list ds)) : ∃ a xs, v = .ref a ∧ H a = some (.lst xs) ∧ RepL K w G H xs ds := by
  rcases r with r | ⟨a, e, t⟩
  · cases r with
    | lst g h r => exact ⟨_, _, rfl, h, r⟩
  · cases t with
    | lst h r => exact ⟨_, _, e, h, r⟩

theorem EnvOk.getT {K : PySem.W.Frag} {w : World} {A0 : Addr → Prop} {H0 H : Hp} {oa : Ow} {σ : L2.St} {ρ : Rho} (E : EnvOk K w A0 H0 oa H σ ρ) {i : Nat} {d : D} (h : getR ρ i = some d) : ∃ v, σ[i]? = some (some v) ∧ Rep K w (Gd A0 H0 oa [i]) H v d ∧ RepT K w (Gd A0 H0 oa []) H v d := by
  obtain ⟨v, e, r⟩ := E.get h
  refine ⟨v, e, r, ?_⟩
  unfold getR at h
  split at h
  · next d' e' =>
    cases h
    obtain ⟨v', e1, r'⟩ := E.val i _ e'
    rw [e] at e1; cases e1
    exact .inl r'
  · next d' e' =>
    cases h
    obtain ⟨a, ea⟩ := E.has i _ e'
    obtain ⟨n, d2, e1, e2, t⟩ := E.own i a ea
    rw [e'] at e1; cases e1
    rw [e] at e2; cases e2
    exact .inr ⟨a, rfl, t⟩
  · cases h
structure ResX (K : PySem.W.Frag) (w : World) (A0 : Addr → Prop) (H0 : Hp) (oa : Ow) (ls il : List Nat) (H H' : Hp) (v : V) (d : D) (fr : Bool) : Prop where
  rep : Rep K w (Gd A0 H0 oa ls) H' v d
  top : RepT K w (Gd A0 H0 oa il) H' v d
  fresh : fr = true → ∃ a, v = .ref a ∧ H a = none ∧ Top K w (fun b => Gd A0 H0 oa ls b ∧ b ≠ a) H' a d
def tX (K : PySem.W.Frag) (w : World) (A0 : Addr → Prop) (H0 : Hp) (x : Ex) : TE := fun σ H Q => ∃ oa ρ d fr, EnvOk K w A0 H0 oa H σ ρ ∧ x.ev ρ = some (d, fr) ∧
  ∀ v H', Same H H' → ResX K w A0 H0 oa x.lk x.il H H' v d fr → Q v H'
/-- a test -/
def tXT (K : PySem.W.Frag) (w : World) (A0 : Addr → Prop) (H0 : Hp) (x : Ex) : TT := fun σ H Q => ∃ oa ρ b fr, EnvOk K w A0 H0 oa H σ ρ ∧ x.ev ρ = some (.bool b, fr) ∧
  ∀ H', Same H H' → Q b H'
theorem peI {X : Cx} {e : Expr} {t t' : TE} (h : PE X e t) (i : ∀ σ H Q, t' σ H Q → t σ H Q) : PE X e t' := ⟨fun pins s σ H Q I q => h.run pins s σ H Q I (i σ H Q q)⟩
theorem ptI {X : Cx} {e : Expr} {t t' : TT} (h : PT X e t) (i : ∀ σ H Q, t' σ H Q → t σ H Q) : PT X e t' := ⟨fun pins s σ H Q I q => h.run pins s σ H Q I (i σ H Q q)⟩
theorem psI {X : Cx} {e : Stmt} {t t' : TS} (h : PS X e t) (i : ∀ D σ H, t' D σ H → t D σ H) : PS X e t' := ⟨fun pins s σ H D I q => h.run pins s σ H D I (i D σ H q)⟩
theorem pssI {X : Cx} {e : List Stmt} {t t' : TS} (h : PSs X e t) (i : ∀ D σ H, t' D σ H → t D σ H) : PSs X e t' := ⟨fun pins s σ H D I q => h.run pins s σ H D I (i D σ H q)⟩
theorem paI {X : Cx} {e : List Expr} {t t' : TA} (h : PA X e t) (i : ∀ σ H Q, t' σ H Q → t σ H Q) : PA X e t' := ⟨fun pos pins s σ H Q I q => h.run pos pins s σ H Q I (i σ H Q q)⟩

/-- the judgement: e is evaluated as x says -/
structure SE (X : Cx) (A0 : Addr → Prop) (H0 : Hp) (e : Expr) (x : Ex) : Prop where
  pe : PE X e (tX X.K X.w A0 H0 x)
structure SB (X : Cx) (A0 : Addr → Prop) (H0 : Hp) (e : Expr) (x : Ex) : Prop where
  pt : PT X e (tXT X.K X.w A0 H0 x)
end Wd
set_option maxRecDepth 100000
set_option maxHeartbeats 2000000
/-! Expressions: what each is worth, and that the machine agrees. -/
namespace Wd
open PySem PySem.Spec L2

abbrev LIM : Nat := 10000000
theorem lim_le {n : Nat} (h : n ≤ LIM) : n ≤ sizeLine := Nat.le_trans h (by rw [sizeLine_eq]; decide)
theorem lim_lt {n : Nat} (h : n < LIM) : n < sizeLine := Nat.lt_of_lt_of_le h (by rw [sizeLine_eq]; decide)

/-! ### immutable data -/
mutual
def imm : D → Bool
  | .none => true
  | .bool _ => true
  | .int _ => true
  | .str _ => true
  | .tuple ds => immL ds
  | .list _ => false
  | .dict _ => false
def immL : List D → Bool
  | [] => true
  | d :: ds => imm d && immL ds
end
section
variable {K : PySem.W.Frag} {w : World} {G G' : Addr → Prop} {H H' : Hp}
mutual
theorem Rep.imm (G' : Addr → Prop) : ∀ {v : V} {d : D}, Rep K w G H v d → imm d = true → Rep K w G' H v d
  | _, _, .non, _ => .non
  | _, _, .bl b, _ => .bl b
  | _, _, .int i, _ => .int i
  | _, _, .str x, _ => .str x
  | _, _, .tup h r, e => .tup h (RepL.imm G' r e)
  | _, _, .lst g h r, e => by cases e
  | _, _, .dic g h e1 e2 r n z s c, e => by cases e
  | _, _, .scr h, e => by cases e
theorem RepL.imm (G' : Addr → Prop) : ∀ {vs : List V} {ds : List D}, RepL K w G H vs ds → immL ds = true → RepL K w G' H vs ds
  | _, _, .nil, _ => .nil
  | _, _, .cons h r, e => by
    unfold immL at e
    rw [Bool.and_eq_true] at e
    exact .cons (Rep.imm G' h e.1) (RepL.imm G' r e.2)
end
end

section
variable {K : PySem.W.Frag} {w : World} {G G1 : Addr → Prop} {H : Hp} {v : V}
theorem RepT.none_inv (r : RepT K w G H v .none) : v = .non := by
  rcases r with r | ⟨_, _, t⟩
  · cases r; rfl
  · cases t
theorem RepT.bool_inv {b : Bool} (r : RepT K w G H v (.bool b)) : v = .bl b := by
  rcases r with r | ⟨_, _, t⟩
  · cases r; rfl
  · cases t
theorem RepT.int_inv {i : Int} (r : RepT K w G H v (.int i)) : v = .int i := by
  rcases r with r | ⟨_, _, t⟩
  · cases r; rfl
  · cases t
theorem RepT.str_inv {i : Str} (r : RepT K w G H v (.str i)) : v = .str i := by
  rcases r with r | ⟨_, _, t⟩
  · cases r; rfl
  · cases t
theorem RepT.tup_inv {ds : List D} (r : RepT K w G H v (.tuple ds)) : ∃ a xs, v = .ref a ∧ SqT K H a xs ∧ RepL K w G H xs ds := by
  rcases r with r | ⟨_, _, t⟩
  · cases r with
    | tup h r => exact ⟨_, _, rfl, h, r⟩
  · cases t
end

/-! ### names and constants -/
def xVar (i : Nat) : Ex := ⟨fun ρ => (getR ρ i).map fun d => (d, false), [i], []⟩
def xC (d : D) : Ex := ⟨fun _ => some (d, false), [], []⟩
section
variable {X : Cx} {A0 : Addr → Prop} {H0 : Hp} {pos : Pos}
theorem se_var {i : Nat} {x : Str} (hN : X.N[i]? = some x := by rfl) (hv : Vis X.env.scope x := by first | exact Or.inl rfl | exact Or.inr (Or.inl rfl) | exact Or.inr (Or.inr rfl)) (hd : (x == ("__debug__" : Str)) = false := by decide) (hcd : (x == ("__classdict__" : Str)) = false := by decide) :
    SE X A0 H0 (.Name x pos) (xVar i) := ⟨peI (pe_var hN hv hd hcd) fun σ H Q ⟨oa, ρ, d, fr, E, ev, k⟩ => by
  obtain ⟨d', e, h⟩ := Option.map_eq_some_iff.mp ev
  cases h
  obtain ⟨v, e1, r, t⟩ := E.getT e
  exact ⟨v, e1, k v H (Same.refl H) ⟨r, t, fun z => nomatch z⟩⟩⟩
theorem se_c {e : Expr} {v : V} {d : D} (h : PE X e (tC v)) (r : ∀ G H, Rep X.K X.w G H v d) : SE X A0 H0 e (xC d) := ⟨peI h fun σ H Q ⟨oa, ρ, d', fr, E, ev, k⟩ => by
  cases ev
  exact k v H (Same.refl H) ⟨r _ _, .inl (r _ _), fun z => nomatch z⟩⟩
theorem se_int {i j} : SE X A0 H0 (.Constant (.int i) j pos) (xC (.int i)) := se_c pe_int fun _ _ => .int i
theorem se_bl {b j} : SE X A0 H0 (.Constant (.bool b) j pos) (xC (.bool b)) := se_c pe_bl fun _ _ => .bl b
theorem se_non {j} : SE X A0 H0 (.Constant .none j pos) (xC .none) := se_c pe_non fun _ _ => .non
theorem se_str {x j} : SE X A0 H0 (.Constant (.str x) j pos) (xC (.str x)) := se_c pe_str fun _ _ => .str x
/-- a module's int -/
theorem se_gint {x : Str} {i : Int} {t : Tok} (hg : Gl X x) (hm : X.mg x = some (.int i t)) (hd : (x == ("__debug__" : Str)) = false := by decide) : SE X A0 H0 (.Name x pos) (xC (.int i)) := se_c (pe_glob (v := .int i) hg hm ⟨t, rfl⟩ hd) fun _ _ => .int i
theorem se_gstr {x : Str} {i : Str} {t : Tok} (hg : Gl X x) (hm : X.mg x = some (.str i t)) (hd : (x == ("__debug__" : Str)) = false := by decide) : SE X A0 H0 (.Name x pos) (xC (.str i)) := se_c (pe_glob (v := .str i) hg hm ⟨t, rfl⟩ hd) fun _ _ => .str i

/-! ### two operands -/
def x2 (f : D → D → Option (D × Bool)) (lk : List Nat) (a b : Ex) : Ex := ⟨fun ρ => (a.ev ρ).bind fun x => (b.ev ρ).bind fun y => f x.1 y.1, lk, lk⟩
def x1 (f : D → Option (D × Bool)) (lk : List Nat) (a : Ex) : Ex := ⟨fun ρ => (a.ev ρ).bind fun x => f x.1, lk, lk⟩
/-- the rule r does what f says -/
def R2ok (K : PySem.W.Frag) (w : World) (f : D → D → Option (D × Bool)) (r : R2) : Prop := ∀ (G G1 : Addr → Prop) (x y d : D) (fr : Bool) (u v : V) (H : Hp) (Q : VK), f x y = some (d, fr) → RepT K w G H u x → RepT K w G1 H v y →
  (∀ z H', Same H H' → Rep K w (fun b => G b ∨ G1 b ∨ (fr = true ∧ H b = none)) H' z d ∧ (fr = true → ∃ a, z = .ref a ∧ H a = none ∧ Top K w (fun b => (G b ∨ G1 b) ∧ H b ≠ none) H' a d) → Q z H') → r u v H Q
/-- the result is a scalar -/
def flat : D → Bool
  | .none => true
  | .bool _ => true
  | .int _ => true
  | .str _ => true
  | _ => false
theorem Rep.flat {K : PySem.W.Frag} {w : World} {G : Addr → Prop} {H : Hp} {v : V} {d : D} (r : Rep K w G H v d) (f : flat d = true) (K' : PySem.W.Frag) (w' : World) (G' : Addr → Prop) (H' : Hp) : Rep K' w' G' H' v d := by
  cases r with
  | non => exact .non
  | bl b => exact .bl b
  | int i => exact .int i
  | str x => exact .str x
  | _ => cases f
theorem gd_new {oa : Ow} {ls : List Nat} {K : PySem.W.Frag} {w : World} {H : Hp} {σ : L2.St} {ρ : Rho} (E : EnvOk K w A0 H0 oa H σ ρ) {b : Addr} (n : H b = none) : Gd A0 H0 oa ls b := by
  refine ⟨E.new b n, fun i e => ?_⟩
  obtain ⟨_, d, _, _, t⟩ := E.own i b e
  obtain ⟨o, ho, _⟩ := t.there
  rw [n] at ho; cases ho
theorem se_2 {e a b : Expr} {xa xb : Ex} {f : D → D → Option (D × Bool)} {r : R2} (ha : SE X A0 H0 a xa) (hb : SE X A0 H0 b xb) (he : ∀ ta tb, PE X a ta → PE X b tb → PE X e (tOp r ta tb)) (hr : R2ok X.K X.w f r)
    (lk : List Nat) (hl : ∀ i, i ∈ xa.il ++ xb.il → i ∈ lk := by simp) : SE X A0 H0 e (x2 f lk xa xb) := by
  refine ⟨peI (he _ _ ha.pe hb.pe) fun σ H Q ⟨oa, ρ, d, fr, E, ev, k⟩ => ?_⟩
  obtain ⟨⟨x, fx⟩, ex, ev⟩ := Option.bind_eq_some_iff.mp ev
  obtain ⟨⟨y, fy⟩, ey, ev⟩ := Option.bind_eq_some_iff.mp ev
  refine ⟨oa, ρ, x, fx, E, ex, fun u H1 s1 r1 => ⟨oa, ρ, y, fy, E.ext s1, ey, fun v H2 s2 r2 => ?_⟩⟩
  refine hr _ _ x y d fr u v H2 Q ev (r1.top.keep s2 fun _ g _ => g) r2.top fun z H3 s3 ⟨r3, t3⟩ => ?_
  have s12 := s1.trans s2
  have g1 : ∀ b, Gd A0 H0 oa xa.il b → Gd A0 H0 oa lk b := fun b g => g.mono fun i hi => hl i (List.mem_append_left _ hi)
  have g2 : ∀ b, Gd A0 H0 oa xb.il b → Gd A0 H0 oa lk b := fun b g => g.mono fun i hi => hl i (List.mem_append_right _ hi)
  have rr : Rep X.K X.w (Gd A0 H0 oa lk) H3 z d := r3.keep (.refl fun b g _ => by
    rcases g with g | g | ⟨_, g⟩
    · exact g1 b g
    · exact g2 b g
    · exact gd_new (E.ext s12) g)
  refine k z H3 (s12.trans s3) ⟨rr, .inl rr, fun hf => ?_⟩
  · obtain ⟨p, e1, e2, t⟩ := t3 hf
    refine ⟨p, e1, s12.free e2, t.keep (.refl fun b ⟨g, n⟩ _ => ⟨?_, fun z => n (by rw [z]; exact e2)⟩) fun o h => h⟩
    rcases g with g | g
    · exact g1 b g
    · exact g2 b g
end
def sc (f : D → D → Option D) : D → D → Option (D × Bool) := fun x y => (f x y).map fun d => (d, false)
def sc1 (f : D → Option D) : D → Option (D × Bool) := fun x => (f x).map fun d => (d, false)
section
variable {K : PySem.W.Frag} {w : World} {G G' : Addr → Prop} {H H' : Hp}
theorem Rep.none_inv {v : V} (r : Rep K w G H v .none) : v = .non := by cases r; rfl
theorem Rep.bool_inv {v : V} {b : Bool} (r : Rep K w G H v (.bool b)) : v = .bl b := by cases r; rfl
theorem Rep.int_inv {v : V} {i : Int} (r : Rep K w G H v (.int i)) : v = .int i := by cases r; rfl
theorem Rep.str_inv {v : V} {x : Str} (r : Rep K w G H v (.str x)) : v = .str x := by cases r; rfl
theorem Rep.tup_inv {v : V} {ds : List D} (r : Rep K w G H v (.tuple ds)) : ∃ a xs, v = .ref a ∧ SqT K H a xs ∧ RepL K w G H xs ds := by
  cases r with
  | tup h r => exact ⟨_, _, rfl, h, r⟩
theorem Rep.lst_inv {v : V} {ds : List D} (r : Rep K w G H v (.list ds)) : ∃ a xs, v = .ref a ∧ G a ∧ H a = some (.lst xs) ∧ RepL K w G H xs ds := by
  cases r with
  | lst g h r => exact ⟨_, _, rfl, g, h, r⟩
/-- a scalar answer -/
theorem r2_sc {f : D → D → Option D} {r : R2} (h : ∀ (G G1 : Addr → Prop) (x y d : D) (u v : V) (H : Hp) (Q : VK), f x y = some d → RepT K w G H u x → RepT K w G1 H v y → (∀ z, (∀ G' H', Rep K w G' H' z d) → Q z H) → r u v H Q) : R2ok K w (sc f) r := by
  intro G G1 x y d fr u v H Q e r1 r2 k
  obtain ⟨d', e1, e2⟩ := Option.map_eq_some_iff.mp e
  cases e2
  exact h G G1 x y d u v H Q e1 r1 r2 fun z rz => k z H (Same.refl H) ⟨rz _ _, fun z => nomatch z⟩
end

/-! ### ints -/
def dI2 (C : Int → Int → Bool) (g : Int → Int → Int) : D → D → Option D
  | .int i, .int j => if C i j = true then some (.int (g i j)) else none
  | _, _ => none
def dB2 (g : Int → Int → Bool) : D → D → Option D
  | .int i, .int j => some (.bool (g i j))
  | _, _ => none
theorem r2_I {K : PySem.W.Frag} {w : World} {C : Int → Int → Bool} {C' : Int → Int → Prop} {g : Int → Int → Int} (hC : ∀ i j, C i j = true → C' i j) : R2ok K w (sc (dI2 C g)) (rI C' fun i j => .int (g i j)) := by
  refine r2_sc fun G G1 x y d u v H Q e r1 r2 k => ?_
  unfold dI2 at e
  split at e
  · next i j =>
    split at e
    · next hc =>
      cases e
      cases r1.int_inv
      cases r2.int_inv
      exact ⟨i, j, rfl, rfl, hC i j hc, k _ fun _ _ => .int _⟩
    · cases e
  · cases e
theorem r2_I0 {K : PySem.W.Frag} {w : World} {g : Int → Int → Int} : R2ok K w (sc (dI2 (fun _ _ => true) g)) (rI0 fun i j => .int (g i j)) := by
  refine r2_sc fun G G1 x y d u v H Q e r1 r2 k => ?_
  unfold dI2 at e
  split at e
  · next i j =>
    cases e
    cases r1.int_inv
    cases r2.int_inv
    exact ⟨i, j, rfl, rfl, k _ fun _ _ => .int _⟩
  · cases e
theorem r2_B0 {K : PySem.W.Frag} {w : World} {g : Int → Int → Bool} : R2ok K w (sc (dB2 g)) (rI0 fun i j => .bl (g i j)) := by
  refine r2_sc fun G G1 x y d u v H Q e r1 r2 k => ?_
  unfold dB2 at e
  split at e
  · next i j =>
    cases e
    cases r1.int_inv
    cases r2.int_inv
    exact ⟨i, j, rfl, rfl, k _ fun _ _ => .bl _⟩
  · cases e
def mulOk (i j : Int) : Bool := decide (i.natAbs < 2 ^ 64) || decide (j.natAbs < 2 ^ 64) || decide (i.natAbs.log2 + j.natAbs.log2 < 1000000)
def divOk (_ j : Int) : Bool := decide (j ≠ 0) && decide (j.natAbs.log2 < 9000)
/-- floor division -/
def fdv (i j : Int) : Int := if 0 < j then i / j else i.fdiv j
theorem fdv_eq (i j : Int) : fdv i j = i.fdiv j := by
  unfold fdv
  split
  · exact (Int.fdiv_eq_ediv_of_nonneg i (by omega)).symm
  · rfl
theorem op_fdivG {X : Cx} : OpR X (binaryOp .FloorDiv) (rI (fun i j => divOk i j = true) fun i j => .int (fdv i j)) := opI fun i j _ _ _ _ _ hc q => by
  unfold divOk at hc
  rw [Bool.and_eq_true] at hc
  refine PyProof.Rows.floordiv_int (of_decide_eq_true hc.1) (by rw [← fdv_eq]; exact q) (.inl (PyProof.noPylong_of_log2 (of_decide_eq_true hc.2)))
def modOk (_ j : Int) : Bool := decide (0 < j)
def powOk (i j : Int) : Bool := decide (0 ≤ j) && decide (j ≤ 1000000) && decide (i.natAbs < 2 ^ 64)
theorem op_mulG {X : Cx} : OpR X (binaryOp .Mult) (rI (fun i j => mulOk i j = true) fun i j => .int (i * j)) := opI fun i j _ _ _ _ _ hc q => by
  refine PyProof.Rows.mul_int q ?_
  unfold mulOk at hc
  rw [Bool.or_eq_true, Bool.or_eq_true] at hc
  rcases hc with (h | h) | h
  · exact .of_left (PySem.intBits_le_64 (by have := of_decide_eq_true h; omega) (by have := of_decide_eq_true h; omega))
  · exact .of_right (PySem.intBits_le_64 (by have := of_decide_eq_true h; omega) (by have := of_decide_eq_true h; omega))
  · exact CMulW.ok (show i.natAbs.log2 + j.natAbs.log2 < 1000000 from of_decide_eq_true h)
theorem modOk_ok {i j : Int} (h : modOk i j = true) : 0 < j := of_decide_eq_true h
theorem powOk_ok {i j : Int} (h : powOk i j = true) : CPow i j := by
  unfold powOk at h
  rw [Bool.and_eq_true, Bool.and_eq_true] at h
  exact ⟨of_decide_eq_true h.1.1, of_decide_eq_true h.1.2, of_decide_eq_true h.2⟩

def dSub := dI2 (fun _ _ => true) fun i j => i - j
def dMul := dI2 mulOk fun i j => i * j
def dDiv := dI2 divOk fdv
def dMod := dI2 modOk fun i j => i % j
def dPow := dI2 powOk fun i j => i ^ j.toNat
def dLt := dB2 fun i j => decide (i < j)
def dLe := dB2 fun i j => decide (i ≤ j)
def dGt := dB2 fun i j => decide (j < i)
def dGe := dB2 fun i j => decide (j ≤ i)
/-- + -/
def dAdd : D → D → Option (D × Bool)
  | .int i, .int j => some (.int (i + j), false)
  | .str x, .str y => if x.length + y.length ≤ LIM then some (.str (x ++ y), false) else none
  | .list xs, .list ys => if xs.length + ys.length ≤ LIM then some (.list (xs ++ ys), true) else none
  | .tuple xs, .tuple ys => if xs.length + ys.length ≤ LIM then some (.tuple (xs ++ ys), false) else none
  | _, _ => none
theorem same_new {H : Hp} {p : Addr} {o : HO} (h : H p = none) : Same H (upd H p o) := fun b u q => by rw [upd_ne (ne_of_none q h)]; exact q
abbrev rAddA (K : PySem.W.Frag) : R2 := fun x y H Q => (rI0 fun i j => .int (i + j)) x y H Q ∨ (∃ i j, x = .str i ∧ y = .str j ∧ i.length + j.length ≤ sizeLine ∧ Q (.str (i ++ j)) H) ∨ rCat x y H Q ∨ rCatA K x y H Q
theorem op_addA {X : Cx} : OpR X (binaryOp .Add) (rAddA X.K) := op_add.or (op_add_str.or (op_cat.or op_catA))
theorem r2_add {K : PySem.W.Frag} {w : World} : R2ok K w dAdd (rAddA K) := by
  intro G G1 x y d fr u v H Q e r1 r2 k
  unfold dAdd at e
  split at e
  · next i j =>
    cases e
    cases r1.int_inv
    cases r2.int_inv
    exact .inl ⟨i, j, rfl, rfl, k _ H (Same.refl H) ⟨.int _, fun z => nomatch z⟩⟩
  · next i j =>
    split at e
    · next hz =>
      cases e
      cases r1.str_inv
      cases r2.str_inv
      exact .inr (.inl ⟨i, j, rfl, rfl, lim_le hz, k _ H (Same.refl H) ⟨.str _, fun z => nomatch z⟩⟩)
    · cases e
  · next xs ys =>
    split at e
    · next hz =>
      cases e
      obtain ⟨a, us, rfl, ha, ra⟩ := r1.lst_inv
      obtain ⟨b, vs, rfl, hb, rb⟩ := r2.lst_inv
      refine .inr (.inr (.inl ⟨a, b, us, vs, rfl, rfl, ha, hb, ?_, fun p hp => ?_⟩))
      · rw [ra.length, rb.length]
        exact lim_le hz
      have s := same_new (o := .lst (us ++ vs)) hp
      have ra' : RepL K w (fun b => (G b ∨ G1 b) ∧ H b ≠ none) (upd H p (.lst (us ++ vs))) us xs := ra.keep ⟨fun b xs h => s _ _ h, fun b o u h => s _ _ h, fun b o _ h => s _ _ h, fun b g n => ⟨.inl g, n⟩⟩
      have rb' : RepL K w (fun b => (G b ∨ G1 b) ∧ H b ≠ none) (upd H p (.lst (us ++ vs))) vs ys := rb.keep ⟨fun b xs h => s _ _ h, fun b o u h => s _ _ h, fun b o _ h => s _ _ h, fun b g n => ⟨.inr g, n⟩⟩
      have t : Top K w (fun b => (G b ∨ G1 b) ∧ H b ≠ none) (upd H p (.lst (us ++ vs))) p (.list (xs ++ ys)) := .lst upd_same (ra'.append rb')
      exact k _ _ s ⟨t.rep (.inr (.inr ⟨rfl, hp⟩)) fun b g => g.1.elim .inl fun z => .inr (.inl z), fun _ => ⟨p, rfl, hp, t⟩⟩
    · cases e
  · next xs ys =>
    split at e
    · next hz =>
      cases e
      obtain ⟨a, us, rfl, ha, ra⟩ := r1.tup_inv
      obtain ⟨b, vs, rfl, hb, rb⟩ := r2.tup_inv
      have la := ra.length
      have lb := rb.length
      refine .inr (.inr (.inr ⟨a, b, us, vs, rfl, rfl, ha, hb, ?_, fun z => ?_, fun n z => ?_, fun n m p hp => ?_⟩))
      · rw [la, lb]
        exact lim_le hz
      · subst z
        cases xs with
        | nil => exact k _ H (Same.refl H) ⟨.tup hb (rb.keep (.refl fun b g _ => .inr (.inl g))), fun z => nomatch z⟩
        | cons _ _ => cases la
      · subst z
        cases ys with
        | nil =>
          rw [List.append_nil] at k
          exact k _ H (Same.refl H) ⟨.tup ha (ra.keep (.refl fun b g _ => .inl g)), fun z => nomatch z⟩
        | cons _ _ => cases lb
      · have s := same_new (o := .tup (us ++ vs)) hp
        refine k _ _ s ⟨.tup (SqT.of upd_same) ((ra.keep ?_).append (rb.keep ?_)), fun z => nomatch z⟩
        · exact .same s fun b g _ => .inl g
        · exact .same s fun b g _ => .inr (.inl g)
    · cases e
  · cases e

section
variable {X : Cx} {A0 : Addr → Prop} {H0 : Hp} {pos : Pos} {a b : Expr} {xa xb : Ex}
theorem se_bin {op : Operator} {r : R2} {f : D → D → Option (D × Bool)} (ho : OpR X (binaryOp op) r) (hr : R2ok X.K X.w f r) (ha : SE X A0 H0 a xa) (hb : SE X A0 H0 b xb) (lk : List Nat) (hl : ∀ i, i ∈ xa.il ++ xb.il → i ∈ lk) : SE X A0 H0 (.BinOp a op b pos) (x2 f lk xa xb) :=
  se_2 ha hb (fun ta tb pa pb => pe_op ho pa pb) hr lk hl
/-- a scalar answer holds no address -/
theorem se_2s {e : Expr} {f : D → D → Option D} {r : R2} (ha : SE X A0 H0 a xa) (hb : SE X A0 H0 b xb) (he : ∀ ta tb, PE X a ta → PE X b tb → PE X e (tOp r ta tb))
    (h : ∀ (G G1 : Addr → Prop) (x y d : D) (u v : V) (H : Hp) (Q : VK), f x y = some d → Rep X.K X.w G H u x → Rep X.K X.w G1 H v y → (∀ z, (∀ G' H', Rep X.K X.w G' H' z d) → Q z H) → r u v H Q) : SE X A0 H0 e (x2 (sc f) [] xa xb) := by
  refine ⟨peI (he _ _ ha.pe hb.pe) fun σ H Q ⟨oa, ρ, d, fr, E, ev, k⟩ => ?_⟩
  obtain ⟨⟨x, fx⟩, ex, ev⟩ := Option.bind_eq_some_iff.mp ev
  obtain ⟨⟨y, fy⟩, ey, ev⟩ := Option.bind_eq_some_iff.mp ev
  obtain ⟨d', e1, e2⟩ := Option.map_eq_some_iff.mp ev
  cases e2
  refine ⟨oa, ρ, x, fx, E, ex, fun u H1 s1 r1 => ⟨oa, ρ, y, fy, E.ext s1, ey, fun v H2 s2 r2 => ?_⟩⟩
  exact h _ _ x y d u v H2 Q e1 (r1.rep.same s2) r2.rep fun z rz => k z H2 (s1.trans s2) ⟨rz _ _, .inl (rz _ _), fun z => nomatch z⟩
end
end Wd
set_option maxRecDepth 100000
set_option maxHeartbeats 2000000
/-! Comparisons, tests, subscripts, displays. -/
namespace Wd
open PySem PySem.Spec L2

/-! ### == of data -/
section
variable {K : PySem.W.Frag} {w : World} {G : Addr → Prop} {H : Hp}
mutual
theorem Rep.dp : ∀ {v : V} {d : D}, Rep K w G H v d → d.canLay0 = true → Dp K H v d
  | _, _, .non, _ => .non
  | _, _, .bl b, _ => .bl b
  | _, _, .int i, _ => .int i
  | _, _, .str x, _ => .str x
  | _, _, .tup h r, e => .tup h (RepL.dp r (by simpa [PyData.canLay0] using e))
  | _, _, .lst g h r, e => .lst (SqL.of h) (RepL.dp r (by simpa [PyData.canLay0] using e))
  | _, _, .dic g h e1 e2 r n z s c, e => by simp [PyData.canLay0] at e
  | _, _, .scr h, e => by simp [scrD, PyData.canLay0] at e
theorem RepL.dp : ∀ {vs : List V} {ds : List D}, RepL K w G H vs ds → PyData.canLayAll0 ds = true → DpAll K H vs ds
  | _, _, .nil, _ => .nil
  | _, _, .cons h r, e => by
    rw [PyData.canLayAll0, Bool.and_eq_true] at e
    exact .cons (Rep.dp h e.1) (RepL.dp r e.2)
end
end
def eqD : D → D → Option Bool
  | .int i, .int j => some (decide (i = j))
  | .str x, .str y => some (decide (x = y))
  | .bool a, .bool b => some (decide (a = b))
  | .none, .none => some true
  | .none, .int _ => some false
  | .int _, .none => some false
  | .none, .str _ => some false
  | .str _, .none => some false
  | .none, .bool _ => some false
  | .bool _, .none => some false
  | .int _, .str _ => some false
  | .str _, .int _ => some false
  | x, y => if (SeqAt.shaped x && SeqAt.shaped y) = true then some (PyData.eqv x y) else none
def dEq (x y : D) : Option D := (eqD x y).map .bool
def dNe (x y : D) : Option D := (eqD x y).map fun b => .bool (!b)
theorem eqD_ok {K : PySem.W.Frag} {w : World} {G G1 : Addr → Prop} {x y : D} {b : Bool} {u v : V} {H : Hp} (e : eqD x y = some b) (r1 : Rep K w G H u x) (r2 : Rep K w G1 H v y) :
    (scal u v = true ∧ decide (u = v) = b) ∨ (∃ d e, Dp K H u d ∧ Dp K H v e ∧ SeqAt.shaped d = true ∧ SeqAt.shaped e = true ∧ PyData.eqv d e = b) := by
  unfold eqD at e
  split at e
  · cases e; cases r1.int_inv; cases r2.int_inv; exact .inl ⟨rfl, by simp⟩
  · cases e; cases r1.str_inv; cases r2.str_inv; exact .inl ⟨rfl, by simp⟩
  · cases e; cases r1.bool_inv; cases r2.bool_inv; exact .inl ⟨rfl, by simp⟩
  · cases e; cases r1.none_inv; cases r2.none_inv; exact .inl ⟨rfl, by simp⟩
  · cases e; cases r1.none_inv; cases r2.int_inv; exact .inl ⟨rfl, by simp⟩
  · cases e; cases r1.int_inv; cases r2.none_inv; exact .inl ⟨rfl, by simp⟩
  · cases e; cases r1.none_inv; cases r2.str_inv; exact .inl ⟨rfl, by simp⟩
  · cases e; cases r1.str_inv; cases r2.none_inv; exact .inl ⟨rfl, by simp⟩
  · cases e; cases r1.none_inv; cases r2.bool_inv; exact .inl ⟨rfl, by simp⟩
  · cases e; cases r1.bool_inv; cases r2.none_inv; exact .inl ⟨rfl, by simp⟩
  · cases e; cases r1.int_inv; cases r2.str_inv; exact .inl ⟨rfl, by simp⟩
  · cases e; cases r1.str_inv; cases r2.int_inv; exact .inl ⟨rfl, by simp⟩
  · split at e
    · next hs =>
      cases e
      rw [Bool.and_eq_true] at hs
      exact .inr ⟨_, _, r1.dp (SeqAt.canLay_of_shaped hs.1), r2.dp (SeqAt.canLay_of_shaped hs.2), hs.1, hs.2, rfl⟩
    · cases e
abbrev rEqA (K : PySem.W.Frag) : R2 := fun x y H Q => rEq x y H Q ∨ rEqD K x y H Q
abbrev rNeA (K : PySem.W.Frag) : R2 := fun x y H Q => rNe x y H Q ∨ rNeD K x y H Q
theorem s_eq {K : PySem.W.Frag} {w : World} : ∀ (G G1 : Addr → Prop) (x y d : D) (u v : V) (H : Hp) (Q : VK), dEq x y = some d → Rep K w G H u x → Rep K w G1 H v y → (∀ z, (∀ G' H', Rep K w G' H' z d) → Q z H) → rEqA K u v H Q := by
  intro G G1 x y d u v H Q e r1 r2 k
  obtain ⟨b, e1, e2⟩ := Option.map_eq_some_iff.mp e
  cases e2
  rcases eqD_ok e1 r1 r2 with ⟨h1, h2⟩ | ⟨d, e, h1, h2, h3, h4, h5⟩
  · exact .inl ⟨h1, by rw [h2]; exact k _ fun _ _ => .bl _⟩
  · exact .inr ⟨d, e, h1, h2, h3, h4, by rw [h5]; exact k _ fun _ _ => .bl _⟩
theorem s_ne {K : PySem.W.Frag} {w : World} : ∀ (G G1 : Addr → Prop) (x y d : D) (u v : V) (H : Hp) (Q : VK), dNe x y = some d → Rep K w G H u x → Rep K w G1 H v y → (∀ z, (∀ G' H', Rep K w G' H' z d) → Q z H) → rNeA K u v H Q := by
  intro G G1 x y d u v H Q e r1 r2 k
  obtain ⟨b, e1, e2⟩ := Option.map_eq_some_iff.mp e
  cases e2
  rcases eqD_ok e1 r1 r2 with ⟨h1, h2⟩ | ⟨d, e, h1, h2, h3, h4, h5⟩
  · exact .inl ⟨h1, by rw [h2]; exact k _ fun _ _ => .bl _⟩
  · exact .inr ⟨d, e, h1, h2, h3, h4, by rw [h5]; exact k _ fun _ _ => .bl _⟩
theorem s_B0 {K : PySem.W.Frag} {w : World} {g : Int → Int → Bool} : ∀ (G G1 : Addr → Prop) (x y d : D) (u v : V) (H : Hp) (Q : VK), dB2 g x y = some d → Rep K w G H u x → Rep K w G1 H v y → (∀ z, (∀ G' H', Rep K w G' H' z d) → Q z H) → (rI0 fun i j => .bl (g i j)) u v H Q := by
  intro G G1 x y d u v H Q e r1 r2 k
  unfold dB2 at e
  split at e
  · cases e; cases r1.int_inv; cases r2.int_inv; exact ⟨_, _, rfl, rfl, k _ fun _ _ => .bl _⟩
  · cases e
/-- is None -/
def isN : D → Bool
  | .none => true
  | _ => false
def dIs (x y : D) : Option D := if isN y = true then some (.bool (isN x)) else none
def dIsNot (x y : D) : Option D := if isN y = true then some (.bool (!isN x)) else none
theorem Rep.isN {K : PySem.W.Frag} {w : World} {G : Addr → Prop} {H : Hp} {v : V} {d : D} (r : Rep K w G H v d) : decide (v = .non) = Wd.isN d := by
  cases r <;> simp [Wd.isN, scrD]
theorem isN_eq {d : D} (h : isN d = true) : d = .none := by
  cases d <;> simp [isN] at h ⊢
theorem s_is {K : PySem.W.Frag} {w : World} : ∀ (G G1 : Addr → Prop) (x y d : D) (u v : V) (H : Hp) (Q : VK), dIs x y = some d → Rep K w G H u x → Rep K w G1 H v y → (∀ z, (∀ G' H', Rep K w G' H' z d) → Q z H) → v = .non ∧ Q (.bl (decide (u = .non))) H := by
  intro G G1 x y d u v H Q e r1 r2 k
  unfold dIs at e
  split at e
  · next h =>
    cases e
    cases isN_eq h
    refine ⟨r2.none_inv, ?_⟩
    rw [r1.isN]
    exact k _ fun _ _ => .bl _
  · cases e
theorem s_isnot {K : PySem.W.Frag} {w : World} : ∀ (G G1 : Addr → Prop) (x y d : D) (u v : V) (H : Hp) (Q : VK), dIsNot x y = some d → Rep K w G H u x → Rep K w G1 H v y → (∀ z, (∀ G' H', Rep K w G' H' z d) → Q z H) → v = .non ∧ Q (.bl (!decide (u = .non))) H := by
  intro G G1 x y d u v H Q e r1 r2 k
  unfold dIsNot at e
  split at e
  · next h =>
    cases e
    cases isN_eq h
    refine ⟨r2.none_inv, ?_⟩
    rw [r1.isN]
    exact k _ fun _ _ => .bl _
  · cases e

/-- a scalar result -/
theorem ResX.sc {K : PySem.W.Frag} {w : World} {A0 : Addr → Prop} {H0 : Hp} {oa : Ow} {ls il : List Nat} {H H' : Hp} {v : V} {d : D} (r : ∀ G H, Rep K w G H v d) : ResX K w A0 H0 oa ls il H H' v d false := ⟨r _ _, .inl (r _ _), fun z => nomatch z⟩
theorem ResX.bl {K : PySem.W.Frag} {w : World} {A0 : Addr → Prop} {H0 : Hp} {oa : Ow} {ls il : List Nat} {H H' : Hp} {b : Bool} : ResX K w A0 H0 oa ls il H H' (.bl b) (.bool b) false := .sc fun _ _ => .bl b
theorem ResX.int {K : PySem.W.Frag} {w : World} {A0 : Addr → Prop} {H0 : Hp} {oa : Ow} {ls il : List Nat} {H H' : Hp} {b : Int} : ResX K w A0 H0 oa ls il H H' (.int b) (.int b) false := .sc fun _ _ => .int b
theorem ResX.of {K : PySem.W.Frag} {w : World} {A0 : Addr → Prop} {H0 : Hp} {oa : Ow} {ls : List Nat} {H H' : Hp} {v : V} {d : D} (r : Rep K w (Gd A0 H0 oa ls) H' v d) : ResX K w A0 H0 oa ls ls H H' v d false := ⟨r, .inl r, fun z => nomatch z⟩
theorem ResX.more {K : PySem.W.Frag} {w : World} {A0 : Addr → Prop} {H0 : Hp} {oa : Ow} {ls ls' il il' : List Nat} {H H1 H' : Hp} {v : V} {d : D} {fr : Bool} (r : ResX K w A0 H0 oa ls il H1 H' v d fr) (s : Same H H1) (h : ∀ i ∈ ls, i ∈ ls') (h' : ∀ i ∈ il, i ∈ il') : ResX K w A0 H0 oa ls' il' H H' v d fr := by
  refine ⟨r.rep.keep (.refl fun b g _ => g.mono h), r.top.keep (Same.refl _) fun b g _ => g.mono h', fun f => ?_⟩
  obtain ⟨a, e1, e2, t⟩ := r.fresh f
  exact ⟨a, e1, s.free e2, t.keep (.refl fun b g _ => ⟨g.1.mono h, g.2⟩) fun o z => z⟩
section
variable {X : Cx} {A0 : Addr → Prop} {H0 : Hp} {pos : Pos} {a b c : Expr} {xa xb xc : Ex} {rest : List Expr}
/-- a comparison whose answer is a truth value: as a value and as a test -/
theorem sb_2s {e : Expr} {f : D → D → Option D} {r : R2} (ha : SE X A0 H0 a xa) (hb : SE X A0 H0 b xb) (he : ∀ ta tb, PE X a ta → PE X b tb → PT X e (tTest (tOp r ta tb)))
    (h : ∀ (G G1 : Addr → Prop) (x y d : D) (u v : V) (H : Hp) (Q : VK), f x y = some d → Rep X.K X.w G H u x → Rep X.K X.w G1 H v y → (∀ z, (∀ G' H', Rep X.K X.w G' H' z d) → Q z H) → r u v H Q) : SB X A0 H0 e (x2 (sc f) [] xa xb) := by
  refine ⟨ptI (he _ _ ha.pe hb.pe) fun σ H Q ⟨oa, ρ, d, fr, E, ev, k⟩ => ?_⟩
  obtain ⟨⟨x, fx⟩, ex, ev⟩ := Option.bind_eq_some_iff.mp ev
  obtain ⟨⟨y, fy⟩, ey, ev⟩ := Option.bind_eq_some_iff.mp ev
  obtain ⟨d', e1, e2⟩ := Option.map_eq_some_iff.mp ev
  cases e2
  refine ⟨oa, ρ, x, fx, E, ex, fun u H1 s1 r1 => ⟨oa, ρ, y, fy, E.ext s1, ey, fun v H2 s2 r2 => ?_⟩⟩
  refine h _ _ x y (.bool d) u v H2 _ e1 (r1.rep.same s2) r2.rep fun z rz => ?_
  exact ⟨d, (rz (fun _ => True) H).bool_inv, k H2 (s1.trans s2)⟩
theorem se_cmp {op : CmpOp} {f : D → D → Option D} {r : R2} (ho : OpR X (compareOp op) r) (h : ∀ (G G1 : Addr → Prop) (x y d : D) (u v : V) (H : Hp) (Q : VK), f x y = some d → Rep X.K X.w G H u x → Rep X.K X.w G1 H v y → (∀ z, (∀ G' H', Rep X.K X.w G' H' z d) → Q z H) → r u v H Q)
    (ha : SE X A0 H0 a xa) (hb : SE X A0 H0 b xb) (hm : behindInMarks op b = false) : SE X A0 H0 (.Compare a [op] [b] pos) (x2 (sc f) [] xa xb) := se_2s ha hb (fun ta tb pa pb => pe_cmpR ho pa pb hm) h
theorem sb_cmp {op : CmpOp} {f : D → D → Option D} {r : R2} (ho : OpR X (compareOp op) r) (h : ∀ (G G1 : Addr → Prop) (x y d : D) (u v : V) (H : Hp) (Q : VK), f x y = some d → Rep X.K X.w G H u x → Rep X.K X.w G1 H v y → (∀ z, (∀ G' H', Rep X.K X.w G' H' z d) → Q z H) → r u v H Q)
    (ha : SE X A0 H0 a xa) (hb : SE X A0 H0 b xb) (hm : behindInMarks op b = false) : SB X A0 H0 (.Compare a [op] [b] pos) (x2 (sc f) [] xa xb) := sb_2s ha hb (fun ta tb pa pb => pt_cmpR ho pa pb hm) h
/-- a value that is a truth value, as a test -/
theorem sb_val {e : Expr} {x : Ex} (h : SE X A0 H0 e x) (he : ∀ whole, isTrue e X.env whole = (do let v ← whole; standAt e.pos; holding [v] (truthy v)) := by intro _; rfl) : SB X A0 H0 e x := by
  refine ⟨ptI (pt_val h.pe he) fun σ H Q ⟨oa, ρ, b, fr, E, ev, k⟩ => ⟨oa, ρ, _, fr, E, ev, fun v H1 s1 r1 => ?_⟩⟩
  exact ⟨b, r1.rep.bool_inv, k H1 s1⟩

/-! ### and, or, not, if else -/
def xAnd (a b : Ex) : Ex := ⟨fun ρ => (a.ev ρ).bind fun x => match x.1 with
  | .bool true => (b.ev ρ).bind fun y => match y.1 with
    | .bool c => some (.bool c, false)
    | _ => none
  | .bool false => some (.bool false, false)
  | _ => none, [], []⟩
def xOr (a b : Ex) : Ex := ⟨fun ρ => (a.ev ρ).bind fun x => match x.1 with
  | .bool false => (b.ev ρ).bind fun y => match y.1 with
    | .bool c => some (.bool c, false)
    | _ => none
  | .bool true => some (.bool true, false)
  | _ => none, [], []⟩
def dNot : D → Option D
  | .bool b => some (.bool (!b))
  | _ => none
@[simp] def xNot (a : Ex) : Ex := x1 (sc1 dNot) [] a
def xIf (c a b : Ex) : Ex := ⟨fun ρ => (c.ev ρ).bind fun x => match x.1 with
  | .bool true => a.ev ρ
  | .bool false => b.ev ρ
  | _ => none, a.lk ++ b.lk, a.il ++ b.il⟩
theorem andEv {a b : Ex} {ρ : Rho} {d : D} {fr : Bool} (h : (xAnd a b).ev ρ = some (d, fr)) : (∃ f, a.ev ρ = some (.bool true, f) ∧ ∃ c f', b.ev ρ = some (.bool c, f') ∧ d = .bool c ∧ fr = false) ∨ (∃ f, a.ev ρ = some (.bool false, f) ∧ d = .bool false ∧ fr = false) := by
  obtain ⟨⟨x, fx⟩, ex, ev⟩ := Option.bind_eq_some_iff.mp h
  dsimp only at ev
  split at ev
  · obtain ⟨⟨y, fy⟩, ey, ev⟩ := Option.bind_eq_some_iff.mp ev
    dsimp only at ev
    split at ev
    · cases ev; exact .inl ⟨fx, ex, _, fy, ey, rfl, rfl⟩
    · cases ev
  · cases ev; exact .inr ⟨fx, ex, rfl, rfl⟩
  · cases ev
theorem orEv {a b : Ex} {ρ : Rho} {d : D} {fr : Bool} (h : (xOr a b).ev ρ = some (d, fr)) : (∃ f, a.ev ρ = some (.bool false, f) ∧ ∃ c f', b.ev ρ = some (.bool c, f') ∧ d = .bool c ∧ fr = false) ∨ (∃ f, a.ev ρ = some (.bool true, f) ∧ d = .bool true ∧ fr = false) := by
  obtain ⟨⟨x, fx⟩, ex, ev⟩ := Option.bind_eq_some_iff.mp h
  dsimp only at ev
  split at ev
  · obtain ⟨⟨y, fy⟩, ey, ev⟩ := Option.bind_eq_some_iff.mp ev
    dsimp only at ev
    split at ev
    · cases ev; exact .inl ⟨fx, ex, _, fy, ey, rfl, rfl⟩
    · cases ev
  · cases ev; exact .inr ⟨fx, ex, rfl, rfl⟩
  · cases ev
theorem se_one {op} (h : SE X A0 H0 a xa) : SE X A0 H0 (.BoolOp op [a] pos) xa := ⟨pe_one h.pe⟩
theorem se_and (ha : SE X A0 H0 a xa) (hb : SE X A0 H0 (.BoolOp .And (b :: rest) pos) xb) : SE X A0 H0 (.BoolOp .And (a :: b :: rest) pos) (xAnd xa xb) := by
  refine ⟨peI (pe_and ha.pe hb.pe) fun σ H Q ⟨oa, ρ, d, fr, E, ev, k⟩ => ?_⟩
  rcases andEv ev with ⟨f, e1, c, f', e2, rfl, rfl⟩ | ⟨f, e1, rfl, rfl⟩
  · refine ⟨oa, ρ, _, f, E, e1, fun v H1 s1 r1 => ⟨true, r1.rep.bool_inv, ?_⟩⟩
    rw [if_pos rfl]
    exact ⟨oa, ρ, _, f', E.ext s1, e2, fun z H2 s2 r2 => k z H2 (s1.trans s2) (.sc fun _ _ => r2.rep.flat rfl _ _ _ _)⟩
  · refine ⟨oa, ρ, _, f, E, e1, fun v H1 s1 r1 => ⟨false, r1.rep.bool_inv, ?_⟩⟩
    rw [if_neg Bool.false_ne_true]
    exact k _ H1 s1 .bl
theorem se_or (ha : SE X A0 H0 a xa) (hb : SE X A0 H0 (.BoolOp .Or (b :: rest) pos) xb) : SE X A0 H0 (.BoolOp .Or (a :: b :: rest) pos) (xOr xa xb) := by
  refine ⟨peI (pe_or ha.pe hb.pe) fun σ H Q ⟨oa, ρ, d, fr, E, ev, k⟩ => ?_⟩
  rcases orEv ev with ⟨f, e1, c, f', e2, rfl, rfl⟩ | ⟨f, e1, rfl, rfl⟩
  · refine ⟨oa, ρ, _, f, E, e1, fun v H1 s1 r1 => ⟨false, r1.rep.bool_inv, ?_⟩⟩
    rw [if_neg Bool.false_ne_true]
    exact ⟨oa, ρ, _, f', E.ext s1, e2, fun z H2 s2 r2 => k z H2 (s1.trans s2) (.sc fun _ _ => r2.rep.flat rfl _ _ _ _)⟩
  · refine ⟨oa, ρ, _, f, E, e1, fun v H1 s1 r1 => ⟨true, r1.rep.bool_inv, ?_⟩⟩
    rw [if_pos rfl]
    exact k _ H1 s1 .bl
/-- one operand, a scalar answer -/
theorem ev1 {f : D → Option D} {lk : List Nat} {ρ : Rho} {d : D} {fr : Bool} (h : (x1 (sc1 f) lk xa).ev ρ = some (d, fr)) : ∃ x fx, xa.ev ρ = some (x, fx) ∧ f x = some d ∧ fr = false := by
  obtain ⟨⟨x, fx⟩, ex, ev⟩ := Option.bind_eq_some_iff.mp h
  obtain ⟨d', e1, e2⟩ := Option.map_eq_some_iff.mp ev
  cases e2
  exact ⟨x, fx, ex, e1, rfl⟩
theorem dNot_inv {x d : D} (h : dNot x = some d) : ∃ b, x = .bool b ∧ d = .bool (!b) := by
  unfold dNot at h
  split at h
  · cases h; exact ⟨_, rfl, rfl⟩
  · cases h
theorem se_not (ha : SE X A0 H0 a xa) : SE X A0 H0 (.UnaryOp .Not a pos) (xNot xa) := by
  refine ⟨peI (pe_not ha.pe) fun σ H Q ⟨oa, ρ, d, fr, E, ev, k⟩ => ?_⟩
  obtain ⟨x, fx, ex, e1, rfl⟩ := ev1 ev
  obtain ⟨b, rfl, rfl⟩ := dNot_inv e1
  exact ⟨oa, ρ, _, fx, E, ex, fun v H1 s1 r1 => ⟨_, r1.rep.bool_inv, k _ H1 s1 .bl⟩⟩
/-- tests -/
structure SW (X : Cx) (A0 : Addr → Prop) (H0 : Hp) (e : Expr) (x : Ex) : Prop where
  pw : PW X e (tXT X.K X.w A0 H0 x)
theorem pwI {X : Cx} {e : Expr} {t t' : TT} (h : PW X e t) (i : ∀ σ H Q, t' σ H Q → t σ H Q) : PW X e t' := ⟨fun wh pins s σ H Q I q => h.run wh pins s σ H Q I (i σ H Q q)⟩
theorem SW.tob {e : Expr} {x : Ex} (h : SW X A0 H0 e x) : SB X A0 H0 e x := ⟨h.pw.pt⟩
theorem sw_and1 (ha : SB X A0 H0 a xa) : SW X A0 H0 (.BoolOp .And [a] pos) xa := ⟨pw_and1 ha.pt⟩
theorem sw_or1 (ha : SB X A0 H0 a xa) : SW X A0 H0 (.BoolOp .Or [a] pos) xa := ⟨pw_or1 ha.pt⟩
theorem sw_and (ha : SB X A0 H0 a xa) (hb : SW X A0 H0 (.BoolOp .And (b :: rest) pos) xb) : SW X A0 H0 (.BoolOp .And (a :: b :: rest) pos) (xAnd xa xb) := by
  refine ⟨pwI (pw_and ha.pt hb.pw) fun σ H Q ⟨oa, ρ, d, fr, E, ev, k⟩ => ?_⟩
  rcases andEv ev with ⟨f, e1, c, f', e2, e3, rfl⟩ | ⟨f, e1, e3, rfl⟩
  · cases e3
    refine ⟨oa, ρ, _, f, E, e1, fun H1 s1 => ?_⟩
    exact iteT ⟨oa, ρ, _, f', E.ext s1, e2, fun H2 s2 => k H2 (s1.trans s2)⟩
  · cases e3
    refine ⟨oa, ρ, _, f, E, e1, fun H1 s1 => ?_⟩
    exact iteF (k H1 s1)
theorem sw_or (ha : SB X A0 H0 a xa) (hb : SW X A0 H0 (.BoolOp .Or (b :: rest) pos) xb) : SW X A0 H0 (.BoolOp .Or (a :: b :: rest) pos) (xOr xa xb) := by
  refine ⟨pwI (pw_or ha.pt hb.pw) fun σ H Q ⟨oa, ρ, d, fr, E, ev, k⟩ => ?_⟩
  rcases orEv ev with ⟨f, e1, c, f', e2, e3, rfl⟩ | ⟨f, e1, e3, rfl⟩
  · cases e3
    refine ⟨oa, ρ, _, f, E, e1, fun H1 s1 => ?_⟩
    exact iteF ⟨oa, ρ, _, f', E.ext s1, e2, fun H2 s2 => k H2 (s1.trans s2)⟩
  · cases e3
    refine ⟨oa, ρ, _, f, E, e1, fun H1 s1 => ?_⟩
    exact iteT (k H1 s1)
theorem sb_not (ha : SB X A0 H0 a xa) : SB X A0 H0 (.UnaryOp .Not a pos) (xNot xa) := by
  refine ⟨ptI (pt_not ha.pt) fun σ H Q ⟨oa, ρ, d, fr, E, ev, k⟩ => ?_⟩
  obtain ⟨x, fx, ex, e1, rfl⟩ := ev1 ev
  obtain ⟨b, rfl, e2⟩ := dNot_inv e1
  cases e2
  exact ⟨oa, ρ, _, fx, E, ex, fun H1 s1 => k H1 s1⟩
theorem se_if (hc : SB X A0 H0 c xc) (ha : SE X A0 H0 a xa) (hb : SE X A0 H0 b xb) : SE X A0 H0 (.IfExp c a b pos) (xIf xc xa xb) := by
  refine ⟨peI (pe_ifExp hc.pt ha.pe hb.pe) fun σ H Q ⟨oa, ρ, d, fr, E, ev, k⟩ => ?_⟩
  obtain ⟨⟨x, fx⟩, ex, ev⟩ := Option.bind_eq_some_iff.mp ev
  dsimp only at ev
  split at ev
  · refine ⟨oa, ρ, _, fx, E, ex, fun H1 s1 => ?_⟩
    exact iteT ⟨oa, ρ, _, fr, E.ext s1, ev, fun z H2 s2 r2 => k z H2 (s1.trans s2) (r2.more s1 (fun i h => List.mem_append_left _ h) fun i h => List.mem_append_left _ h)⟩
  · refine ⟨oa, ρ, _, fx, E, ex, fun H1 s1 => ?_⟩
    exact iteF ⟨oa, ρ, _, fr, E.ext s1, ev, fun z H2 s2 r2 => k z H2 (s1.trans s2) (r2.more s1 (fun i h => List.mem_append_right _ h) fun i h => List.mem_append_right _ h)⟩
  · cases ev

/-! ### one operand -/
def dNeg : D → Option D
  | .int i => some (.int (-i))
  | _ => none
theorem se_neg (ha : SE X A0 H0 a xa) : SE X A0 H0 (.UnaryOp .USub a pos) (x1 (sc1 dNeg) [] xa) := by
  refine ⟨peI (pe_un un_neg ha.pe) fun σ H Q ⟨oa, ρ, d, fr, E, ev, k⟩ => ?_⟩
  obtain ⟨x, fx, ex, e1, rfl⟩ := ev1 ev
  unfold dNeg at e1
  split at e1
  · cases e1
    exact ⟨oa, ρ, _, fx, E, ex, fun v H1 s1 r1 => ⟨_, r1.rep.int_inv, k _ H1 s1 .int⟩⟩
  · cases e1
end

/-! ### subscripts -/
/-- the script's items -/
def scrOf : List (D × D) → Option (List D)
  | (.none, .none) :: r => some (r.map (·.2))
  | _ => none
theorem scrOf_scr (ns : List Int) : scrOf ((.none, .none) :: ns.map fun n => (.none, .int n)) = some (ns.map fun n => .int n) := by
  simp [scrOf, Function.comp_def]
theorem SqF.l {K : PySem.W.Frag} {H : Hp} {a : Addr} {xs : List V} (h : SqF K H a xs) : SqL K H a xs := by
  rcases h with ⟨o, h⟩ | (h | ⟨o, h⟩) | h
  · exact .inl (.inr ⟨o, h⟩)
  · cases h
  · cases h
  · exact .inr h
theorem atI_rep {K : PySem.W.Frag} {w : World} {G : Addr → Prop} {H : Hp} {vs : List V} {ds : List D} {i : Int} {d : D} (r : RepL K w G H vs ds) (h : atI ds i = some d) : ∃ v, atI vs i = some v ∧ Rep K w G H v d := by
  obtain ⟨j, e1, e2⟩ := Option.bind_eq_some_iff.mp h
  obtain ⟨v, e3, rv⟩ := r.get e2
  refine ⟨v, ?_, rv⟩
  unfold atI
  rw [r.length, e1]
  exact e3
section
variable {K : PySem.W.Frag} {w : World} {G G1 : Addr → Prop} {H : Hp} {v : V}
/-- a dict's facts -/
structure DicF (K : PySem.W.Frag) (w : World) (G : Addr → Prop) (H : Hp) (a : Addr) (o : Obj) (kvs : List (D × D)) : Prop where
  at_ : H a = some (isO a o)
  obj : o.ExactDict
  ent : ∃ (es : Array DictEntry) (ep : Nat), o.data = .dict es ep ∧ EntL K w G H es.toList kvs
  nd : (kvs.map fun p => keyOf p.1).Nodup
  len : kvs.length ≤ sizeLine
  ns : (a == sysModules) = false
  kind : (kvs.all (fun p => sKey p.1) || kvs.all (fun p => tKey p.1)) = true
theorem DicF.noscr {a : Addr} {o : Obj} {kvs : List (D × D)} (h : DicF K w G H a o kvs) : scrOf kvs = none := by
  have c := h.kind
  unfold scrOf
  split
  · simp [sKey, tKey] at c
  · rfl
theorem RepT.dic_inv {kvs : List (D × D)} (r : RepT K w G H v (.dict kvs)) : (∃ (a : Addr) (ns : List Int), v = .ref a ∧ SqF K H a (ns.map V.int) ∧ scrOf kvs = some (ns.map .int)) ∨ ∃ a o, v = .ref a ∧ DicF K w G H a o kvs := by
  rcases r with r | ⟨a, e, t⟩
  · generalize hd : PyData.dict kvs = d at r
    cases r with
    | scr s => cases hd; exact .inl ⟨_, _, rfl, s, scrOf_scr _⟩
    | dic g h1 e1 e2 r n z s c => cases hd; exact .inr ⟨_, _, rfl, h1, e1, ⟨_, _, e2, r⟩, n, z, s, c⟩
    | _ => cases hd
  · cases t with
    | dic h1 e1 e2 r n z s c => exact .inr ⟨a, _, e, h1, e1, ⟨_, _, e2, r⟩, n, z, s, c⟩
end
def dIx : D → D → Option D
  | .list xs, .int i => atI xs i
  | .tuple xs, .int i => atI xs i
  | .str z, .int i => if z.length ≤ LIM then (atI z.cps.toList i).map fun c => .str ⟨#[c]⟩ else none
  | .dict kvs, .int i => match scrOf kvs with
    | some xs => atI xs i
    | none => none
  | _, _ => none
theorem ix_ok {K : PySem.W.Frag} {w : World} {G G1 : Addr → Prop} {x y d : D} {u v : V} {H : Hp} {Q : VK} (e : dIx x y = some d) (r1 : RepT K w G H u x) (r2 : Rep K w G1 H v y) (k : ∀ z, Rep K w G H z d → Q z H) : rIx K u v H Q := by
  unfold dIx at e
  split at e
  · next xs i =>
    obtain ⟨a, us, rfl, ha, ra⟩ := r1.lst_inv
    cases r2.int_inv
    obtain ⟨z, e1, rz⟩ := atI_rep ra e
    exact .inl ⟨a, us, i, z, rfl, rfl, SqL.of ha, e1, k z rz⟩
  · next xs i =>
    obtain ⟨a, us, rfl, ha, ra⟩ := r1.tup_inv
    cases r2.int_inv
    obtain ⟨z, e1, rz⟩ := atI_rep ra e
    exact .inr (.inl ⟨a, us, i, z, rfl, rfl, ha, e1, k z rz⟩)
  · next z i =>
    split at e
    · next hz =>
      cases r1.str_inv
      cases r2.int_inv
      obtain ⟨c, e1, e2⟩ := Option.map_eq_some_iff.mp e
      cases e2
      exact .inr (.inr ⟨z, i, c, rfl, rfl, lim_le hz, e1, k _ (.str _)⟩)
    · cases e
  · next kvs i =>
    split at e
    · next xs hx =>
      rcases r1.dic_inv with ⟨a, ns, rfl, hf, hs⟩ | ⟨a, o, rfl, f⟩
      · rw [hx] at hs
        cases hs
        cases r2.int_inv
        obtain ⟨j, e1, e2⟩ := Option.bind_eq_some_iff.mp e
        rw [List.getElem?_map] at e2
        obtain ⟨n, e3, e4⟩ := Option.map_eq_some_iff.mp e2
        cases e4
        refine .inl ⟨a, _, i, .int n, rfl, rfl, hf.l, ?_, k _ (.int _)⟩
        unfold atI
        rw [List.length_map] at e1 ⊢
        rw [e1]
        show (List.map V.int ns)[j]? = _
        rw [List.getElem?_map, e3]
        rfl
      · rw [f.noscr] at hx
        cases hx
    · cases e
  · cases e
section
variable {X : Cx} {A0 : Addr → Prop} {H0 : Hp} {pos : Pos} {a b : Expr} {xa xb : Ex}
/-- a subscript -/
@[simp] def xIx (a b : Ex) : Ex := x2 (sc dIx) a.il a b
theorem ev2 {f : D → D → Option D} {lk : List Nat} {ρ : Rho} {d : D} {fr : Bool} (h : (x2 (sc f) lk xa xb).ev ρ = some (d, fr)) : ∃ x fx y fy, xa.ev ρ = some (x, fx) ∧ xb.ev ρ = some (y, fy) ∧ f x y = some d ∧ fr = false := by
  obtain ⟨⟨x, fx⟩, ex, ev⟩ := Option.bind_eq_some_iff.mp h
  obtain ⟨⟨y, fy⟩, ey, ev⟩ := Option.bind_eq_some_iff.mp ev
  obtain ⟨d', e1, e2⟩ := Option.map_eq_some_iff.mp ev
  cases e2
  exact ⟨x, fx, y, fy, ex, ey, e1, rfl⟩
theorem se_ix (ha : SE X A0 H0 a xa) (hb : SE X A0 H0 b xb) (hs : PlainIx b := by exact fun _ _ => rfl) : SE X A0 H0 (.Subscript a b pos) (xIx xa xb) := by
  refine ⟨peI (pe_ix ix_seq ha.pe hb.pe hs) fun σ H Q ⟨oa, ρ, d, fr, E, ev, k⟩ => ?_⟩
  obtain ⟨x, fx, y, fy, ex, ey, e1, rfl⟩ := ev2 ev
  refine ⟨oa, ρ, x, fx, E, ex, fun u H1 s1 r1 => ⟨oa, ρ, y, fy, E.ext s1, ey, fun v H2 s2 r2 => ?_⟩⟩
  exact ix_ok e1 (r1.top.keep s2 fun _ g _ => g) r2.rep fun z rz => k z H2 (s1.trans s2) (.of rz)

/-! ### len -/
def dLen : D → Option D
  | .list xs => some (.int xs.length)
  | .tuple xs => some (.int xs.length)
  | .str z => if z.length ≤ LIM then some (.int z.length) else none
  | .dict kvs => match scrOf kvs with
    | some xs => some (.int xs.length)
    | none => none
  | _ => none
theorem len_ok {K : PySem.W.Frag} {w : World} {G : Addr → Prop} {x d : D} {u : V} {H : Hp} {Q : VK} (e : dLen x = some d) (r : RepT K w G H u x) (k : ∀ z, (∀ G' H', Rep K w G' H' z d) → Q z H) : ∃ x n, [u] = [x] ∧ LenV K x H n ∧ Q (.int n) H := by
  unfold dLen at e
  split at e
  · next xs =>
    cases e
    obtain ⟨a, us, rfl, ha, ra⟩ := r.lst_inv
    exact ⟨_, us.length, rfl, .inl ⟨us, SqL.of ha, rfl⟩, k _ fun _ _ => by rw [ra.length]; exact .int _⟩
  · next xs =>
    cases e
    obtain ⟨a, us, rfl, ha, ra⟩ := r.tup_inv
    exact ⟨_, us.length, rfl, .inr ⟨us, ha, rfl⟩, k _ fun _ _ => by rw [ra.length]; exact .int _⟩
  · next z =>
    split at e
    · next hz =>
      cases e
      cases r.str_inv
      exact ⟨_, _, rfl, ⟨lim_le hz, rfl⟩, k _ fun _ _ => .int _⟩
    · cases e
  · next kvs =>
    split at e
    · next xs hx =>
      cases e
      rcases r.dic_inv with ⟨a, ns, rfl, hf, hs⟩ | ⟨a, o, rfl, f⟩
      · rw [hx] at hs
        cases hs
        exact ⟨_, _, rfl, .inl ⟨_, hf.l, rfl⟩, k _ fun _ _ => by rw [List.length_map, List.length_map]; exact .int _⟩
      · rw [f.noscr] at hx
        cases hx
    · cases e
  · cases e
@[simp] def xLen (a : Ex) : Ex := x1 (sc1 dLen) [] a
theorem se_len {p : Pos} (hg : Gl X "len") (hm : X.mg "len" = none) (ha : SE X A0 H0 a xa) (he : starEach [a] X.env = (false, eval a X.env) :: starEach [] X.env := by rfl) : SE X A0 H0 (.Call (.Name "len" p) [a] [] pos) (xLen xa) := by
  refine ⟨peI (pe_callB call_len hg hm PySem.boot_len (pa_cons ha.pe pa_nil he) (he := he)) fun σ H Q ⟨oa, ρ, d, fr, E, ev, k⟩ => ?_⟩
  obtain ⟨x, fx, ex, e1, rfl⟩ := ev1 ev
  exact ⟨oa, ρ, x, fx, E, ex, fun u H1 s1 r1 => len_ok e1 r1.top fun z rz => k z H1 s1 (.sc rz)⟩

/-! ### argument lists, displays -/
structure SA (X : Cx) (A0 : Addr → Prop) (H0 : Hp) (es : List Expr) (xs : List Ex) : Prop where
  pa : PA X es (fun σ H Q => ∃ oa ρ ds, EnvOk X.K X.w A0 H0 oa H σ ρ ∧ (xs.map fun x => (x.ev ρ).map (·.1)) = ds.map some ∧
    ∀ vs H', Same H H' → RepL X.K X.w (Gd A0 H0 oa (xs.flatMap (·.lk))) H' vs ds → Q vs H')
theorem sa_nil : SA X A0 H0 [] [] := ⟨paI pa_nil fun σ H Q ⟨oa, ρ, ds, E, ev, k⟩ => by
  cases ds with
  | nil => exact k [] H (Same.refl H) .nil
  | cons _ _ => cases ev⟩
theorem sa_cons {es : List Expr} {xs : List Ex} (ha : SE X A0 H0 a xa) (hr : SA X A0 H0 es xs) (hs : starEach (a :: es) X.env = (false, eval a X.env) :: starEach es X.env := by rfl) : SA X A0 H0 (a :: es) (xa :: xs) := by
  refine ⟨paI (pa_cons ha.pe hr.pa hs) fun σ H Q ⟨oa, ρ, ds, E, ev, k⟩ => ?_⟩
  cases ds with
  | nil => cases ev
  | cons d ds =>
    rw [List.map_cons, List.map_cons, List.cons.injEq] at ev
    obtain ⟨ev1, ev2⟩ := ev
    obtain ⟨⟨x, fx⟩, ex, e⟩ := Option.map_eq_some_iff.mp ev1
    cases e
    refine ⟨oa, ρ, x, fx, E, ex, fun u H1 s1 r1 => ⟨oa, ρ, ds, E.ext s1, ev2, fun vs H2 s2 r2 => ?_⟩⟩
    refine k _ H2 (s1.trans s2) (.cons ((r1.rep.same s2).keep (.refl fun b g _ => g.mono fun i hi => ?_)) (r2.keep (.refl fun b g _ => g.mono fun i hi => ?_)))
    · rw [List.flatMap_cons]; exact List.mem_append_left _ hi
    · rw [List.flatMap_cons]; exact List.mem_append_right _ hi
/-- the values of a list of expressions -/
def evL (ρ : Rho) : List Ex → Option (List D)
  | [] => some []
  | x :: xs => (x.ev ρ).bind fun d => (evL ρ xs).bind fun ds => some (d.1 :: ds)
theorem evL_map {ρ : Rho} : ∀ {xs : List Ex} {ds : List D}, evL ρ xs = some ds → (xs.map fun x => (x.ev ρ).map (·.1)) = ds.map some
  | [], ds, h => by cases h; rfl
  | x :: xs, ds, h => by
    obtain ⟨d, e1, h⟩ := Option.bind_eq_some_iff.mp h
    obtain ⟨ds', e2, h⟩ := Option.bind_eq_some_iff.mp h
    cases h
    rw [List.map_cons, List.map_cons, evL_map e2, e1]
    rfl
def lks (xs : List Ex) : List Nat := xs.flatMap (·.lk)
def xTup (xs : List Ex) : Ex := ⟨fun ρ => (evL ρ xs).bind fun ds => if ds.length ≤ LIM then some (.tuple ds, false) else none, lks xs, lks xs⟩
def xLst (xs : List Ex) : Ex := ⟨fun ρ => (evL ρ xs).bind fun ds => if ds.length ≤ LIM then some (.list ds, true) else none, lks xs, lks xs⟩
theorem gd_top {K : PySem.W.Frag} {w : World} {oa : Ow} {ls : List Nat} {H H1 : Hp} {σ : L2.St} {ρ : Rho} {vs : List V} {ds : List D} {p : Addr} (E : EnvOk K w A0 H0 oa H1 σ ρ) (s1 : Same H H1) (hp : H1 p = none) (r : RepL K w (Gd A0 H0 oa ls) H1 vs ds) :
    ResX K w A0 H0 oa ls ls H (upd H1 p (.lst vs)) (.ref p) (.list ds) true := by
  have s := same_new (o := .lst vs) hp
  have t : Top K w (fun b => Gd A0 H0 oa ls b ∧ b ≠ p) (upd H1 p (.lst vs)) p (.list ds) := .lst upd_same (r.keep (.same s fun b g n => ⟨g, fun z => n (by rw [z]; exact hp)⟩))
  have rr : Rep K w (Gd A0 H0 oa ls) (upd H1 p (.lst vs)) (.ref p) (.list ds) := t.rep (gd_new E hp) fun b g => g.1
  exact ⟨rr, .inl rr, fun _ => ⟨p, rfl, s1.free hp, t⟩⟩
theorem se_tup {es : List Expr} {xs : List Ex} {k1 : Nat} (h : SA X A0 H0 es xs) : SE X A0 H0 (.Tuple es k1 pos) (xTup xs) := by
  refine ⟨peI (pe_tup h.pa) fun σ H Q ⟨oa, ρ, d, fr, E, ev, k⟩ => ?_⟩
  obtain ⟨ds, e1, e2⟩ := Option.bind_eq_some_iff.mp ev
  split at e2
  · next hz =>
    cases e2
    refine ⟨oa, ρ, ds, E, evL_map e1, fun vs H1 s1 r1 => ⟨by rw [r1.length]; exact lim_le hz, fun p hp => ?_⟩⟩
    have s := same_new (o := .tup vs) hp
    exact k _ _ (s1.trans s) (.of (.tup (SqT.of upd_same) (r1.same s)))
  · cases e2
theorem se_lst {es : List Expr} {xs : List Ex} (h : SA X A0 H0 es xs) : SE X A0 H0 (.List es pos) (xLst xs) := by
  refine ⟨peI (pe_lst h.pa) fun σ H Q ⟨oa, ρ, d, fr, E, ev, k⟩ => ?_⟩
  obtain ⟨ds, e1, e2⟩ := Option.bind_eq_some_iff.mp ev
  split at e2
  · next hz =>
    cases e2
    refine ⟨oa, ρ, ds, E, evL_map e1, fun vs H1 s1 r1 => ⟨by rw [r1.length]; exact lim_le hz, fun p hp => ?_⟩⟩
    exact k _ _ (s1.trans (same_new hp)) (gd_top (E.ext s1) s1 hp r1)
  · cases e2
end
end Wd
set_option maxRecDepth 100000
set_option maxHeartbeats 2000000
/-! Statements, loops, defs. -/
namespace Wd
open PySem PySem.Spec L2

inductive Out where
  | nx (ρ : Rho)
  | rt (d : D) (fr : Bool)
  | bk (ρ : Rho)
  | ct (ρ : Rho)
abbrev Sm := Rho → Option Out

/-! ### slots given and taken -/
def demote (ρ : Rho) (i : Nat) : Rho := match ρ[i]? with
  | some (.own d) => ρ.set i (.val d)
  | _ => ρ
def unown : List Nat → Rho → Rho
  | [], ρ => ρ
  | i :: r, ρ => unown r (demote ρ i)
def immTop : D → Bool
  | .list ds => immL ds
  | .dict kvs => kvs.all fun p => imm p.1 && imm p.2
  | _ => false
def settle (lk : List Nat) (d : D) (fr : Bool) (ρ : Rho) : Rho := match lk with
  | [] => ρ
  | i :: r => if (imm d || (fr && immTop d)) = true then ρ else unown (i :: r) ρ
def bindR (lk : List Nat) (i : Nat) (d : D) (fr : Bool) (ρ : Rho) : Rho := (settle lk d fr ρ).set i (if fr = true then .own d else .val d)
def oaDel (oa : Ow) (i : Nat) : Ow := fun j => if j = i then none else oa j
def oaSet (oa : Ow) (i : Nat) (a : Addr) : Ow := fun j => if j = i then some a else oa j
theorem oaDel_some {oa : Ow} {i j : Nat} {a : Addr} (h : oaDel oa i j = some a) : j ≠ i ∧ oa j = some a := by
  unfold oaDel at h
  split at h
  · cases h
  · next n => exact ⟨n, h⟩

/-- how a heap grows: what is not owned stays and does not come to be owned -/
structure Fr (oa : Ow) (H : Hp) (oa' : Ow) (H' : Hp) : Prop where
  keep : ∀ b o, H b = some o → (∀ i, oa i ≠ some b) → H' b = some o ∧ ∀ i, oa' i ≠ some b
theorem Fr.trans {oa oa' oa'' : Ow} {H H' H'' : Hp} (a : Fr oa H oa' H') (b : Fr oa' H' oa'' H'') : Fr oa H oa'' H'' := ⟨fun c o h n => by
  obtain ⟨h1, n1⟩ := a.keep c o h n
  exact b.keep c o h1 n1⟩
theorem Fr.same {oa oa' : Ow} {H H' : Hp} (s : Same H H') (h : ∀ i b, oa' i = some b → (∃ j, oa j = some b) ∨ H b = none) : Fr oa H oa' H' := ⟨fun b o e n => ⟨s _ _ e, fun i z => by
  rcases h i b z with ⟨j, q⟩ | q
  · exact n j q
  · rw [e] at q; cases q⟩⟩

section
variable {K : PySem.W.Frag} {w : World} {A0 : Addr → Prop} {H0 H H1 H' : Hp} {oa oa' : Ow} {σ : L2.St} {ρ : Rho}
theorem Fr.kp (F : Fr oa H oa' H') (E : EnvOk K w A0 H0 oa H σ ρ) : Kp K (Gd A0 H0 oa []) (Gd A0 H0 oa' []) H H' := by
  have nt : ∀ b o, H b = some o → ¬ Mut (some o) → ∀ i, oa i ≠ some b := fun b o h m i z => by
    obtain ⟨_, d, _, _, t⟩ := E.own i b z
    obtain ⟨o', ho, mo⟩ := t.there
    rw [h] at ho; cases ho
    exact m mo
  refine ⟨fun b xs h => (F.keep b _ h (nt b _ h fun z => z)).1, fun b o u h => (F.keep b _ h (nt b _ h fun z => z)).1, fun b o g h => (F.keep b o h fun i z => nomatch g.2 i z).1, fun b g n => ?_⟩
  cases h : H b with
  | none => exact absurd h n
  | some o => exact ⟨g.1, fun i z => absurd z ((F.keep b o h fun i z => nomatch g.2 i z).2 i)⟩
theorem gd_del {i : Nat} {ls : List Nat} {b : Addr} (g : Gd A0 H0 oa (i :: ls) b) : Gd A0 H0 (oaDel oa i) ls b := ⟨g.1, fun j e => by
  obtain ⟨n, e⟩ := oaDel_some e
  rcases List.mem_cons.mp (g.2 j e) with z | z
  · exact absurd z n
  · exact z⟩
theorem gd_del0 {i : Nat} {ls : List Nat} {b : Addr} (g : Gd A0 H0 oa ls b) : Gd A0 H0 (oaDel oa i) ls b := ⟨g.1, fun j e => g.2 j (oaDel_some e).2⟩
theorem EnvOk.demote (E : EnvOk K w A0 H0 oa H σ ρ) (i : Nat) : EnvOk K w A0 H0 (oaDel oa i) H σ (Wd.demote ρ i) := by
  have ne : ∀ j, j ≠ i → (Wd.demote ρ i)[j]? = ρ[j]? := fun j hj => by
    unfold Wd.demote
    split
    · rw [List.getElem?_set_ne (Ne.symm hj)]
    · rfl
  have gg : ∀ b, Gd A0 H0 oa [] b → Gd A0 H0 (oaDel oa i) [] b := fun b g => gd_del0 g
  refine ⟨?_, E.same, E.new, fun j a e => E.ownA j a (oaDel_some e).2, fun j a e => ?_, fun j k a e1 e2 => E.inj j k a (oaDel_some e1).2 (oaDel_some e2).2, fun j d e => ?_, fun j d e => ?_⟩
  · rw [E.len]
    unfold Wd.demote
    split
    · rw [List.length_set]
    · rfl
  · obtain ⟨n, e⟩ := oaDel_some e
    obtain ⟨h0, d, e1, e2, t⟩ := E.own j a e
    exact ⟨h0, d, by rw [ne j n]; exact e1, e2, t.keep (.refl fun b g _ => gg b g) fun o z => z⟩
  · by_cases hj : j = i
    · subst hj
      unfold Wd.demote at e
      split at e
      · next d' ed =>
        rw [List.getElem?_set_self (List.getElem?_eq_some_iff.mp ed).1] at e
        cases e
      · next h => exact absurd e (h d)
    · rw [ne j hj] at e
      obtain ⟨a, ea⟩ := E.has j d e
      exact ⟨a, by unfold oaDel; rw [if_neg hj]; exact ea⟩
  · by_cases hj : j = i
    · subst hj
      unfold Wd.demote at e
      split at e
      · next d' ed =>
        rw [List.getElem?_set_self (List.getElem?_eq_some_iff.mp ed).1] at e
        cases e
        obtain ⟨a, ea⟩ := E.has j d ed
        obtain ⟨h0, d2, e1, e2, t⟩ := E.own j a ea
        rw [ed] at e1; cases e1
        refine ⟨_, e2, t.rep ⟨E.ownA j a ea, fun k z => ?_⟩ gg⟩
        obtain ⟨n, z⟩ := oaDel_some z
        exact absurd (E.inj k j a z ea) n
      · obtain ⟨v, e1, r⟩ := E.val j d e
        exact ⟨v, e1, r.keep (.refl fun b g _ => gg b g)⟩
    · rw [ne j hj] at e
      obtain ⟨v, e1, r⟩ := E.val j d e
      exact ⟨v, e1, r.keep (.refl fun b g _ => gg b g)⟩
theorem unown_ok : ∀ (ls : List Nat) {oa : Ow} {ρ : Rho}, EnvOk K w A0 H0 oa H σ ρ → ∃ oa', EnvOk K w A0 H0 oa' H σ (Wd.unown ls ρ) ∧ (∀ b, Gd A0 H0 oa ls b → Gd A0 H0 oa' [] b) ∧ (∀ i b, oa' i = some b → oa i = some b) ∧ ∀ i b, oa i = some b → oa' i = some b ∨ i ∈ ls
  | [], oa, ρ, E => ⟨oa, E, fun _ g => g, fun _ _ e => e, fun _ _ e => .inl e⟩
  | i :: r, oa, ρ, E => by
    obtain ⟨oa', E', g', s', m'⟩ := unown_ok r (E.demote i)
    refine ⟨oa', E', fun b g => g' b (gd_del g), fun j b e => (oaDel_some (s' j b e)).2, fun j b e => ?_⟩
    by_cases hj : j = i
    · exact .inr (by rw [hj]; exact List.mem_cons_self)
    · exact (m' j b (by unfold oaDel; rw [if_neg hj]; exact e)).elim .inl fun z => .inr (List.mem_cons_of_mem _ z)
theorem EnvOk.unown (E : EnvOk K w A0 H0 oa H σ ρ) (ls : List Nat) : ∃ oa', EnvOk K w A0 H0 oa' H σ (Wd.unown ls ρ) ∧ (∀ b, Gd A0 H0 oa ls b → Gd A0 H0 oa' [] b) ∧ (∀ i b, oa' i = some b → oa i = some b) ∧ ∀ i b, oa i = some b → oa' i = some b ∨ i ∈ ls := unown_ok ls E
theorem EnvOk.setV (E : EnvOk K w A0 H0 oa H σ ρ) {v : V} {d : D} (i : Nat) (r : Rep K w (Gd A0 H0 oa []) H v d) : EnvOk K w A0 H0 (oaDel oa i) H (σ.set i (some v)) (ρ.set i (.val d)) := by
  have gg : ∀ b, Gd A0 H0 oa [] b → Gd A0 H0 (oaDel oa i) [] b := fun b g => gd_del0 g
  refine ⟨by rw [List.length_set, List.length_set]; exact E.len, E.same, E.new, fun j a e => E.ownA j a (oaDel_some e).2, fun j a e => ?_, fun j k a e1 e2 => E.inj j k a (oaDel_some e1).2 (oaDel_some e2).2, fun j d' e => ?_, fun j d' e => ?_⟩
  · obtain ⟨n, e⟩ := oaDel_some e
    obtain ⟨h0, d, e1, e2, t⟩ := E.own j a e
    exact ⟨h0, d, by rw [List.getElem?_set_ne (Ne.symm n)]; exact e1, by rw [List.getElem?_set_ne (Ne.symm n)]; exact e2, t.keep (.refl fun b g _ => gg b g) fun o z => z⟩
  · by_cases hj : i = j
    · subst hj
      rw [List.getElem?_set] at e
      simp only [if_true] at e
      split at e <;> cases e
    · rw [List.getElem?_set_ne hj] at e
      obtain ⟨a, ea⟩ := E.has j d' e
      exact ⟨a, by unfold oaDel; rw [if_neg (Ne.symm hj)]; exact ea⟩
  · by_cases hj : i = j
    · subst hj
      rw [List.getElem?_set] at e
      simp only [if_true] at e
      split at e
      · next hl =>
        cases e
        exact ⟨v, by rw [List.getElem?_set_self (by rw [E.len]; exact hl)], r.keep (.refl fun b g _ => gg b g)⟩
      · cases e
    · rw [List.getElem?_set_ne hj] at e
      obtain ⟨u, e1, r1⟩ := E.val j d' e
      exact ⟨u, by rw [List.getElem?_set_ne hj]; exact e1, r1.keep (.refl fun b g _ => gg b g)⟩
theorem EnvOk.ne_new (E : EnvOk K w A0 H0 oa H σ ρ) {a b : Addr} {j : Nat} (e : oa j = some b) (hn : H a = none) : b ≠ a := fun z => by
  subst z
  obtain ⟨_, _, _, _, t⟩ := E.own j b e
  obtain ⟨o, ho, _⟩ := t.there
  rw [hn] at ho; cases ho
theorem EnvOk.setO (E : EnvOk K w A0 H0 oa H1 σ ρ) {a : Addr} {d : D} (i : Nat) (hi : i < ρ.length) (hn : H1 a = none) (s : Same H1 H) (t : Top K w (fun b => Gd A0 H0 oa [] b ∧ b ≠ a) H a d) :
    EnvOk K w A0 H0 (oaSet oa i a) H (σ.set i (some (.ref a))) (ρ.set i (.own d)) := by
  have gg : ∀ b, Gd A0 H0 oa [] b → b ≠ a → Gd A0 H0 (oaSet oa i a) [] b := fun b g n => ⟨g.1, fun j e => by
    unfold oaSet at e
    split at e
    · cases e; exact absurd rfl n
    · exact g.2 j e⟩
  have gn : ∀ b, Gd A0 H0 oa [] b → H1 b ≠ none → Gd A0 H0 (oaSet oa i a) [] b := fun b g n => gg b g fun z => n (by rw [z]; exact hn)
  refine ⟨by rw [List.length_set, List.length_set]; exact E.len, E.same.trans s, fun b n => E.new b (s.free n), fun j b e => by
    unfold oaSet at e
    split at e
    · cases e; exact E.new _ hn
    · exact E.ownA j b e, fun j b e => ?_, fun j k b e1 e2 => ?_, fun j d' e => ?_, fun j d' e => ?_⟩
  · unfold oaSet at e
    split at e
    · next z =>
      cases e
      subst z
      exact ⟨E.same.free hn, d, by rw [List.getElem?_set_self hi], by rw [List.getElem?_set_self (by rw [E.len]; exact hi)], t.keep (.refl fun b g _ => gg b g.1 g.2) fun o z => z⟩
    · next n =>
      obtain ⟨h0, d', e1, e2, t'⟩ := E.own j b e
      exact ⟨h0, d', by rw [List.getElem?_set_ne (Ne.symm n)]; exact e1, by rw [List.getElem?_set_ne (Ne.symm n)]; exact e2, t'.keep (.same s gn) fun o z => s _ _ z⟩
  · unfold oaSet at e1 e2
    split at e1
    · next z1 =>
      split at e2
      · next z2 => rw [z1, z2]
      · cases e1; exact absurd rfl (E.ne_new e2 hn)
    · split at e2
      · cases e2; exact absurd rfl (E.ne_new e1 hn)
      · exact E.inj j k b e1 e2
  · by_cases hj : i = j
    · exact ⟨a, by unfold oaSet; rw [if_pos hj.symm]⟩
    · rw [List.getElem?_set_ne hj] at e
      obtain ⟨b, eb⟩ := E.has j d' e
      exact ⟨b, by unfold oaSet; rw [if_neg (Ne.symm hj)]; exact eb⟩
  · by_cases hj : i = j
    · subst hj
      rw [List.getElem?_set_self hi] at e
      cases e
    · rw [List.getElem?_set_ne hj] at e
      obtain ⟨u, e1, r1⟩ := E.val j d' e
      exact ⟨u, by rw [List.getElem?_set_ne hj]; exact e1, r1.keep (.same s gn)⟩
theorem immL_of {vs : List V} {ds : List D} {G G' : Addr → Prop} (r : RepL K w G H vs ds) (h : immL ds = true) : RepL K w G' H vs ds := r.imm G' h
theorem EntL.imm {G G' : Addr → Prop} : ∀ {es : List DictEntry} {kvs : List (D × D)}, EntL K w G H es kvs → (kvs.all fun p => Wd.imm p.1 && Wd.imm p.2) = true → EntL K w G' H es kvs
  | _, _, .nil, _ => .nil
  | _, _, .cons h1 h2 h3 h4 h5 h6 r, e => by
    rw [List.all_cons, Bool.and_eq_true, Bool.and_eq_true] at e
    exact .cons h1 (h2.imm G' e.1.1) h3 h4 h5 (h6.imm G' e.1.2) (EntL.imm r e.2)
theorem Top.imm {G G' : Addr → Prop} {a : Addr} {d : D} (t : Top K w G H a d) (h : immTop d = true) : Top K w G' H a d := by
  cases t with
  | lst e r => exact .lst e (r.imm G' h)
  | dic e e1 e2 r n z s c => exact .dic e e1 e2 (EntL.imm r h) n z s c
/-- what a value leans on is settled -/
theorem EnvOk.settle (E : EnvOk K w A0 H0 oa H1 σ ρ) {lk il : List Nat} {v : V} {d : D} {fr : Bool} (s : Same H1 H) (r : ResX K w A0 H0 oa lk il H1 H v d fr) : ∃ oa', EnvOk K w A0 H0 oa' H1 σ (Wd.settle lk d fr ρ) ∧ (∀ i b, oa' i = some b → oa i = some b) ∧
    (fr = false → Rep K w (Gd A0 H0 oa' []) H v d) ∧ (fr = true → ∃ a, v = .ref a ∧ H1 a = none ∧ Top K w (fun b => Gd A0 H0 oa' [] b ∧ b ≠ a) H a d) ∧ (∀ i b, oa i = some b → oa' i = some b ∨ i ∈ lk) := by
  unfold Wd.settle
  split
  · exact ⟨oa, E, fun _ _ e => e, fun _ => r.rep, r.fresh, fun _ _ e => .inl e⟩
  · next i l =>
    split
    · next h =>
      refine ⟨oa, E, fun _ _ e => e, fun hf => ?_, fun hf => ?_, fun _ _ e => .inl e⟩
      · subst hf
        rw [Bool.false_and, Bool.or_false] at h
        exact r.rep.imm _ h
      · obtain ⟨a, e1, e2, t⟩ := r.fresh hf
        refine ⟨a, e1, e2, t.imm ?_⟩
        subst hf
        rw [Bool.or_eq_true, Bool.true_and] at h
        rcases h with h | h
        · cases t <;> cases h
        · exact h
    · obtain ⟨oa', E', g, z, m⟩ := E.unown (i :: l)
      refine ⟨oa', E', z, fun _ => r.rep.keep (.refl fun b q _ => g b q), fun hf => ?_, m⟩
      obtain ⟨a, e1, e2, t⟩ := r.fresh hf
      exact ⟨a, e1, e2, t.keep (.refl fun b q _ => ⟨g b q.1, q.2⟩) fun o z => z⟩
/-- name = value -/
theorem EnvOk.bind (E : EnvOk K w A0 H0 oa H1 σ ρ) {lk il : List Nat} {v : V} {d : D} {fr : Bool} (i : Nat) (s : Same H1 H) (r : ResX K w A0 H0 oa lk il H1 H v d fr) : ∃ oa', EnvOk K w A0 H0 oa' H (σ.set i (some v)) (bindR lk i d fr ρ) ∧ Fr oa H1 oa' H := by
  obtain ⟨oa1, E1, z1, h1, h2, _⟩ := E.settle s r
  unfold bindR
  cases fr with
  | false =>
    rw [if_neg Bool.false_ne_true]
    exact ⟨_, (E1.ext s).setV i (h1 rfl), .same s fun j b e => .inl ⟨j, z1 j b (oaDel_some e).2⟩⟩
  | true =>
    rw [if_pos rfl]
    obtain ⟨a, rfl, e2, t⟩ := h2 rfl
    by_cases hi : i < (Wd.settle lk d true ρ).length
    · refine ⟨_, E1.setO i hi e2 s t, .same s fun j b e => ?_⟩
      unfold oaSet at e
      split at e
      · cases e; exact .inr e2
      · exact .inl ⟨j, z1 j b e⟩
    · have hl : σ.length = (Wd.settle lk d true ρ).length := E1.len
      rw [List.set_eq_of_length_le (l := σ) (by omega), List.set_eq_of_length_le (by omega)]
      exact ⟨oa1, E1.ext s, .same s fun j b e => .inl ⟨j, z1 j b e⟩⟩

/-! ### statements -/
def RRes (K : PySem.W.Frag) (w : World) (A0 : Addr → Prop) (H0 H' : Hp) (v : V) (d : D) (fr : Bool) : Prop := Rep K w A0 H' v d ∧ (fr = true → ∃ a, v = .ref a ∧ H0 a = none ∧ Top K w (fun b => A0 b ∧ b ≠ a) H' a d)
def Post (K : PySem.W.Frag) (w : World) (A0 : Addr → Prop) (H0 : Hp) (oa : Ow) (H : Hp) (E : Ends) : Out → Prop
  | .nx ρ' => ∀ oa' σ' H', EnvOk K w A0 H0 oa' H' σ' ρ' → Fr oa H oa' H' → E.nx σ' H'
  | .bk ρ' => ∀ oa' σ' H', EnvOk K w A0 H0 oa' H' σ' ρ' → Fr oa H oa' H' → E.bk σ' H'
  | .ct ρ' => ∀ oa' σ' H', EnvOk K w A0 H0 oa' H' σ' ρ' → Fr oa H oa' H' → E.ct σ' H'
  | .rt d fr => ∀ v H', Same H0 H' → RRes K w A0 H0 H' v d fr → E.rt v H'
theorem Post.from {E : Ends} {o : Out} (P : Post K w A0 H0 oa H E o) (F : Fr oa H oa' H') : Post K w A0 H0 oa' H' E o := by
  cases o with
  | nx ρ' => exact fun oa2 σ2 H2 E2 F2 => P oa2 σ2 H2 E2 (F.trans F2)
  | bk ρ' => exact fun oa2 σ2 H2 E2 F2 => P oa2 σ2 H2 E2 (F.trans F2)
  | ct ρ' => exact fun oa2 σ2 H2 E2 F2 => P oa2 σ2 H2 E2 (F.trans F2)
  | rt d fr => exact P
end
def tS (K : PySem.W.Frag) (w : World) (A0 : Addr → Prop) (H0 : Hp) (m : Sm) : TS := fun E σ H => ∃ oa ρ o, EnvOk K w A0 H0 oa H σ ρ ∧ m ρ = some o ∧ Post K w A0 H0 oa H E o
structure SS (X : Cx) (A0 : Addr → Prop) (H0 : Hp) (st : Stmt) (m : Sm) : Prop where
  ps : PS X st (tS X.K X.w A0 H0 m)
structure SSs (X : Cx) (A0 : Addr → Prop) (H0 : Hp) (st : List Stmt) (m : Sm) : Prop where
  pss : PSs X st (tS X.K X.w A0 H0 m)
def sNx : Sm := fun ρ => some (.nx ρ)
def sSeq (m r : Sm) : Sm := fun ρ => (m ρ).bind fun o => match o with
  | .nx ρ' => r ρ'
  | o => some o
section
variable {X : Cx} {A0 : Addr → Prop} {H0 : Hp} {pos : Pos} {st : Stmt} {rest b1 b2 : List Stmt} {m r m1 m2 : Sm} {e : Expr} {x : Ex}
theorem ss_nil : SSs X A0 H0 [] sNx := ⟨pssI pss_nil fun E σ H ⟨oa, ρ, o, En, ev, P⟩ => by
  cases ev
  exact P oa σ H En (.same (Same.refl H) fun i b e => .inl ⟨i, e⟩)⟩
theorem ss_cons (h1 : SS X A0 H0 st m) (h2 : SSs X A0 H0 rest r) : SSs X A0 H0 (st :: rest) (sSeq m r) := by
  refine ⟨pssI (pss_cons h1.ps h2.pss) fun E σ H ⟨oa, ρ, o, En, ev, P⟩ => ?_⟩
  obtain ⟨o1, e1, e2⟩ := Option.bind_eq_some_iff.mp ev
  refine ⟨oa, ρ, o1, En, e1, ?_⟩
  cases o1 with
  | nx ρ1 => exact fun oa1 σ1 H1 E1 F1 => ⟨oa1, ρ1, o, E1, e2, P.from F1⟩
  | rt d fr => cases e2; exact P
  | bk ρ1 => cases e2; exact P
  | ct ρ1 => cases e2; exact P
theorem ss_one (h1 : SS X A0 H0 st m) : SSs X A0 H0 [st] m := ⟨pss_one h1.ps⟩
theorem ss_pass : SS X A0 H0 (.Pass pos) sNx := ⟨psI ps_pass fun E σ H ⟨oa, ρ, o, En, ev, P⟩ => by
  cases ev
  exact P oa σ H En (.same (Same.refl H) fun i b e => .inl ⟨i, e⟩)⟩
def sBk : Sm := fun ρ => some (.bk ρ)
def sCt : Sm := fun ρ => some (.ct ρ)
theorem ss_break : SS X A0 H0 (.Break pos) sBk := ⟨psI ps_break fun E σ H ⟨oa, ρ, o, En, ev, P⟩ => by
  cases ev
  exact P oa σ H En (.same (Same.refl H) fun i b e => .inl ⟨i, e⟩)⟩
theorem ss_continue : SS X A0 H0 (.Continue pos) sCt := ⟨psI ps_continue fun E σ H ⟨oa, ρ, o, En, ev, P⟩ => by
  cases ev
  exact P oa σ H En (.same (Same.refl H) fun i b e => .inl ⟨i, e⟩)⟩
/-- name = e -/
def sAsg (i : Nat) (x : Ex) : Sm := fun ρ => (x.ev ρ).bind fun dv => some (.nx (bindR x.lk i dv.1 dv.2 ρ))
theorem asg_ok {E : Ends} {σ : L2.St} {H : Hp} {i : Nat} (h : tS X.K X.w A0 H0 (sAsg i x) E σ H) : tAsg (tX X.K X.w A0 H0 x) (gName i) E σ H := by
  obtain ⟨oa, ρ, o, En, ev, P⟩ := h
  obtain ⟨⟨d, fr⟩, e1, e2⟩ := Option.bind_eq_some_iff.mp ev
  cases e2
  refine ⟨oa, ρ, d, fr, En, e1, fun v H1 s1 r1 => ?_⟩
  obtain ⟨oa', E', F'⟩ := En.bind i s1 r1
  exact P oa' _ H1 E' F'
theorem ss_asg {i : Nat} {n : Str} {p : Pos} (hN : X.N.Nodup) (he : SE X A0 H0 e x) (hi : X.N[i]? = some n := by rfl) (hx : Loc X.env.scope n := by first | exact Or.inl rfl | exact Or.inr rfl) (hs : swapsWith e (some (.Name n p)) pos.line X.env = pure false := by rfl) (hf : X.fn n = true ∨ X.env.scope.names.lookup n = some .local := by first | exact .inl rfl | exact .inr rfl | assumption) :
    SS X A0 H0 (.Assign [.Name n p] e pos) (sAsg i x) := ⟨psI (ps_set hN hi hx he.pe hs hf) fun E σ H h => asg_ok h⟩
/-- return e -/
def sRet (x : Ex) : Sm := fun ρ => (x.ev ρ).bind fun dv => some (.rt dv.1 dv.2)
/-- return name -/
def sRetV (i : Nat) : Sm := fun ρ => match ρ[i]? with
  | some (.val d) => some (.rt d false)
  | some (.own d) => some (.rt d true)
  | _ => none
theorem ss_ret (he : SE X A0 H0 e x) : SS X A0 H0 (.Return (some e) pos) (sRet x) := by
  refine ⟨psI (ps_ret he.pe) fun E σ H ⟨oa, ρ, o, En, ev, P⟩ => ?_⟩
  obtain ⟨⟨d, fr⟩, e1, e2⟩ := Option.bind_eq_some_iff.mp ev
  cases e2
  refine ⟨oa, ρ, d, fr, En, e1, fun v H1 s1 r1 => P v H1 (En.same.trans s1) ⟨r1.rep.keep (.refl fun b g _ => g.1), fun f => ?_⟩⟩
  obtain ⟨a, e1, e2, t⟩ := r1.fresh f
  exact ⟨a, e1, En.same.free e2, t.keep (.refl fun b g _ => ⟨g.1.1, g.2⟩) fun o z => z⟩
theorem ss_retV {i : Nat} {n : Str} {p : Pos} (hN : X.N[i]? = some n) (hv : Vis X.env.scope n) (hd : (n == ("__debug__" : Str)) = false := by decide) (hcd : (n == ("__classdict__" : Str)) = false := by decide) : SS X A0 H0 (.Return (some (.Name n p)) pos) (sRetV i) := by
  refine ⟨psI (ps_ret (pe_var hN hv hd hcd)) fun E σ H ⟨oa, ρ, o, En, ev, P⟩ => ?_⟩
  unfold sRetV at ev
  split at ev
  · next d e1 =>
    cases ev
    obtain ⟨v, e2, r⟩ := En.val i d e1
    exact ⟨v, e2, P v H En.same ⟨r.keep (.refl fun b g _ => g.1), fun z => nomatch z⟩⟩
  · next d e1 =>
    cases ev
    obtain ⟨a, ea⟩ := En.has i d e1
    obtain ⟨h0, d2, e3, e2, t⟩ := En.own i a ea
    rw [e1] at e3; cases e3
    refine ⟨_, e2, P _ H En.same ⟨t.rep (En.ownA i a ea) fun b g => g.1, fun _ => ⟨a, rfl, h0, t.keep (.refl fun b g n => ⟨g.1, fun z => ?_⟩) fun o z => z⟩⟩⟩
    subst z
    exact nomatch g.2 i ea
  · cases ev
def sRetN : Sm := fun _ => some (.rt .none false)
theorem ss_retN : SS X A0 H0 (.Return none pos) sRetN := ⟨psI ps_retN fun E σ H ⟨oa, ρ, o, En, ev, P⟩ => by
  cases ev
  exact P .non H En.same ⟨.non, fun z => nomatch z⟩⟩
/-- an expression dropped -/
def sDrop (x : Ex) : Sm := fun ρ => (x.ev ρ).bind fun _ => some (.nx ρ)
theorem ss_drop (he : SE X A0 H0 e x) (hs : swapsWith e none pos.line X.env = pure false := by rfl) : SS X A0 H0 (.Expr e pos) (sDrop x) := by
  refine ⟨psI (ps_expr he.pe hs) fun E σ H ⟨oa, ρ, o, En, ev, P⟩ => ?_⟩
  obtain ⟨⟨d, fr⟩, e1, e2⟩ := Option.bind_eq_some_iff.mp ev
  cases e2
  exact ⟨oa, ρ, d, fr, En, e1, fun v H1 s1 r1 => P oa σ H1 (En.ext s1) (.same s1 fun i b e => .inl ⟨i, e⟩)⟩
/-- if -/
def sIf (c : Ex) (a b : Sm) : Sm := fun ρ => (c.ev ρ).bind fun x => match x.1 with
  | .bool true => a ρ
  | .bool false => b ρ
  | _ => none
theorem ss_if {c : Expr} {xc : Ex} (hc : SB X A0 H0 c xc) (ha : SSs X A0 H0 b1 m1) (hb : SSs X A0 H0 b2 m2) : SS X A0 H0 (.If c b1 b2 pos) (sIf xc m1 m2) := by
  refine ⟨psI (ps_if hc.pt ha.pss hb.pss) fun E σ H ⟨oa, ρ, o, En, ev, P⟩ => ?_⟩
  obtain ⟨⟨d, fr⟩, e1, e2⟩ := Option.bind_eq_some_iff.mp ev
  dsimp only at e2
  have F : ∀ H1, Same H H1 → Fr oa H oa H1 := fun H1 s1 => .same s1 fun i b e => .inl ⟨i, e⟩
  split at e2
  · exact ⟨oa, ρ, true, fr, En, e1, fun H1 s1 => iteT ⟨oa, ρ, o, En.ext s1, e2, P.from (F H1 s1)⟩⟩
  · exact ⟨oa, ρ, false, fr, En, e1, fun H1 s1 => iteF ⟨oa, ρ, o, En.ext s1, e2, P.from (F H1 s1)⟩⟩
  · cases e2

/-! ### while -/
def whileR (c : Ex) (b : Sm) : Nat → Rho → Option Out
  | 0, _ => none
  | n + 1, ρ => (c.ev ρ).bind fun x => match x.1 with
    | .bool false => some (.nx ρ)
    | .bool true => (b ρ).bind fun o => match o with
      | .nx ρ' => whileR c b n ρ'
      | .ct ρ' => whileR c b n ρ'
      | .bk ρ' => some (.nx ρ')
      | .rt d fr => some (.rt d fr)
    | _ => none
/-- the most turns that are looked at -/
@[irreducible] def FUEL : Nat := 10 ^ 1000
def sWhile (c : Ex) (b : Sm) : Sm := fun ρ => whileR c b FUEL ρ
theorem ss_while {c : Expr} {xc : Ex} {body : List Stmt} (hp : PassesOwn (model X.prog X.w) X.A X.env X.xe) (hc : SB X A0 H0 c xc) (hb : SSs X A0 H0 body m) : SS X A0 H0 (.While c body [] pos) (sWhile xc m) := by
  refine ⟨psI (ps_while hp hc.pt hb.pss) fun E σ H ⟨oa, ρ, o, En, ev, P⟩ => ?_⟩
  refine ⟨fun n σ' H' => ∃ oa' ρ', EnvOk X.K X.w A0 H0 oa' H' σ' ρ' ∧ whileR xc m n ρ' = some o ∧ Post X.K X.w A0 H0 oa' H' E o, ⟨FUEL, oa, ρ, En, ev, P⟩, ?_⟩
  rintro n σ1 H1 ⟨oa1, ρ1, E1, ev1, P1⟩
  cases n with
  | zero => cases ev1
  | succ n =>
    unfold whileR at ev1
    obtain ⟨⟨d, fr⟩, e1, e2⟩ := Option.bind_eq_some_iff.mp ev1
    dsimp only at e2
    have F : ∀ H2, Same H1 H2 → Fr oa1 H1 oa1 H2 := fun H2 s2 => .same s2 fun i b e => .inl ⟨i, e⟩
    split at e2
    · refine ⟨oa1, ρ1, false, fr, E1, e1, fun H2 s2 => iteF ?_⟩
      cases e2
      exact P1 oa1 σ1 H2 (E1.ext s2) (F H2 s2)
    · obtain ⟨o2, e3, e4⟩ := Option.bind_eq_some_iff.mp e2
      refine ⟨oa1, ρ1, true, fr, E1, e1, fun H2 s2 => iteT ⟨_, fun σ' H' q => ⟨n, Nat.lt_succ_self n, q⟩, oa1, ρ1, o2, E1.ext s2, e3, ?_⟩⟩
      cases o2 with
      | nx ρ2 => exact fun oa3 σ3 H3 E3 F3 => ⟨oa3, ρ2, E3, e4, P1.from ((F H2 s2).trans F3)⟩
      | ct ρ2 => exact fun oa3 σ3 H3 E3 F3 => ⟨oa3, ρ2, E3, e4, P1.from ((F H2 s2).trans F3)⟩
      | bk ρ2 => cases e4; exact fun oa3 σ3 H3 E3 F3 => P1 oa3 σ3 H3 E3 ((F H2 s2).trans F3)
      | rt d fr => cases e4; exact P1
    · cases e2

/-! ### for -/
def forR (tg : D → Rho → Option Rho) (b : Sm) : List D → Rho → Option Out
  | [], ρ => some (.nx ρ)
  | d :: ds, ρ => (tg d ρ).bind fun ρ1 => (b ρ1).bind fun o => match o with
    | .nx ρ' => forR tg b ds ρ'
    | .ct ρ' => forR tg b ds ρ'
    | .bk ρ' => some (.nx ρ')
    | .rt d fr => some (.rt d fr)
/-- a target takes what tg says -/
def SGok (K : PySem.W.Frag) (w : World) (A0 : Addr → Prop) (H0 : Hp) (g : TG) (tg : D → Rho → Option Rho) (ts : List Nat) : Prop := ∀ oa ρ ρ' σ H v d (Q : L2.St → Hp → Prop), EnvOk K w A0 H0 oa H σ ρ → Rep K w (Gd A0 H0 oa []) H v d → tg d ρ = some ρ' →
  (∀ oa' σ', EnvOk K w A0 H0 oa' H σ' ρ' → (∀ i b, oa' i = some b → oa i = some b) → (σ'.length = σ.length ∧ (∀ j, j ∉ ts → σ'[j]? = σ[j]?) ∧ ∀ j b, oa j = some b → oa' j = some b ∨ j ∈ ts) → Q σ' H) → g v σ H Q
structure SG (X : Cx) (A0 : Addr → Prop) (H0 : Hp) (t : Expr) (g : TG) (tg : D → Rho → Option Rho) (ts : List Nat) : Prop where
  pg : PG X t g
  ok : SGok X.K X.w A0 H0 g tg ts
def tgN (i : Nat) : D → Rho → Option Rho := fun d ρ => some (ρ.set i (.val d))
theorem sgo_name {K : PySem.W.Frag} {w : World} {i : Nat} : SGok K w A0 H0 (gName i) (tgN i) [i] := fun oa ρ ρ' σ H v d Q E r e k => by
  cases e
  exact k (oaDel oa i) _ (E.setV i r) (fun j b z => (oaDel_some z).2) ⟨List.length_set, fun j n => List.getElem?_set_ne (fun z => n (by rw [z]; exact List.mem_singleton.mpr rfl)), fun j b z => by
    by_cases hj : j = i
    · exact .inr (List.mem_singleton.mpr hj)
    · exact .inl (by unfold oaDel; rw [if_neg hj]; exact z)⟩
theorem sg_name {i : Nat} {n : Str} {p : Pos} (hN : X.N.Nodup) (hi : X.N[i]? = some n) (hx : Loc X.env.scope n) (hf : X.fn n = true ∨ X.env.scope.names.lookup n = some .local := by first | exact .inl rfl | exact .inr rfl | assumption) : SG X A0 H0 (.Name n p) (gName i) (tgN i) [i] :=
  ⟨pg_name hN hi hx hf, sgo_name⟩
def tgs : List Nat → List D → Rho → Option Rho
  | [], [], ρ => some ρ
  | i :: is, d :: ds, ρ => tgs is ds (ρ.set i (.val d))
  | _, _, _ => none
def tgT (is : List Nat) : D → Rho → Option Rho := fun d ρ => match d with
  | .tuple ds => tgs is ds ρ
  | _ => none
def gNames : List Nat → TGs
  | [] => gNil
  | i :: is => gCons (gName i) (gNames is)
theorem gNames_ok {K : PySem.W.Frag} {w : World} {H : Hp} (Q : L2.St → Hp → Prop) : ∀ (is : List Nat) (ds : List D) (vs : List V) (oa : Ow) (ρ ρ' : Rho) (σ : L2.St), EnvOk K w A0 H0 oa H σ ρ → RepL K w (Gd A0 H0 oa []) H vs ds → tgs is ds ρ = some ρ' →
    (∀ oa' σ', EnvOk K w A0 H0 oa' H σ' ρ' → (∀ i b, oa' i = some b → oa i = some b) → (σ'.length = σ.length ∧ (∀ j, j ∉ is → σ'[j]? = σ[j]?) ∧ ∀ j b, oa j = some b → oa' j = some b ∨ j ∈ is) → Q σ' H) → gNames is vs σ H Q
  | [], ds, vs, oa, ρ, ρ', σ, E, r, e, k => by
    cases r with
    | nil => cases e; exact ⟨rfl, k oa σ E (fun _ _ z => z) ⟨rfl, fun _ _ => rfl, fun _ _ z => .inl z⟩⟩
    | cons _ _ => cases e
  | i :: is, ds, vs, oa, ρ, ρ', σ, E, r, e, k => by
    cases r with
    | nil => cases e
    | cons r1 r2 =>
      refine ⟨_, _, rfl, ?_⟩
      refine gNames_ok Q is _ _ (oaDel oa i) _ ρ' _ (E.setV i r1) (r2.keep (.refl fun b g _ => gd_del0 g)) e fun oa' σ' E' z u => k oa' σ' E' (fun j b q => (oaDel_some (z j b q)).2) ⟨by rw [u.1, List.length_set], fun j n => by
        rw [u.2.1 j fun m => n (List.mem_cons_of_mem _ m)]
        exact List.getElem?_set_ne fun m => n (by rw [m]; exact List.mem_cons_self), fun j b z => by
        by_cases hj : j = i
        · exact .inr (by rw [hj]; exact List.mem_cons_self)
        · exact (u.2.2 j b (by unfold oaDel; rw [if_neg hj]; exact z)).elim .inl fun q => .inr (List.mem_cons_of_mem _ q)⟩
theorem sgo_tup {K : PySem.W.Frag} {w : World} {is : List Nat} : SGok K w A0 H0 (gTup K is.length (gNames is)) (tgT is) is := by
  intro oa ρ ρ' σ H v d Q E r e k
  unfold tgT at e
  split at e
  · next ds =>
    obtain ⟨a, us, rfl, ha, ra⟩ := r.tup_inv
    refine ⟨a, us, rfl, ha, ?_, gNames_ok Q is ds us oa ρ ρ' σ E ra e k⟩
    rw [ra.length]
    clear r ra ha k E
    induction is generalizing ds ρ with
    | nil =>
      cases ds with
      | nil => rfl
      | cons _ _ => cases e
    | cons i is ih =>
      cases ds with
      | nil => cases e
      | cons d ds => rw [List.length_cons, List.length_cons, ih _ _ e]
  · cases e
theorem sg_tup {is : List Nat} {es : List Expr} {k : Nat} (hc : X.calm = true) (h : PGs X es (gNames is)) (hn : (assignEach es X.env).length = is.length := by rfl) (hst : (assignEach es X.env).findIdx? (·.1) = none := by rfl) : SG X A0 H0 (.Tuple es k pos) (gTup X.K is.length (gNames is)) (tgT is) is :=
  ⟨pg_tup hc h hn hst, sgo_tup⟩
/-- what is walked: J gives the items ds, each as it stands then -/
structure Wk (K : PySem.W.Frag) (w : World) (G0 : Addr → Prop) (H1 : Hp) (J : It) (ds : List D) : Prop where
  ex : ∃ (G : Hp → Prop) (Y : Nat → Hp → V → Hp → Prop), Walk J ds.length G Y ∧ (∀ G' H', Kp K G0 G' H1 H' → G H') ∧
    ∀ G' H' i d x H'', Kp K G0 G' H1 H' → (∀ b, H' b = none → G' b) → ds[i]? = some d → Y i H' x H'' → Same H' H'' ∧ Rep K w G' H'' x d
/-- a source of items -/
structure Src where
  ev : Rho → Option (List D × Rho)
  lk : List Nat
def tSrc (K : PySem.W.Frag) (w : World) (A0 : Addr → Prop) (H0 : Hp) (s : Src) : TI := fun σ H R => ∃ oa ρ ds ρ', EnvOk K w A0 H0 oa H σ ρ ∧ s.ev ρ = some (ds, ρ') ∧ ∀ J H1 oa', Same H H1 → EnvOk K w A0 H0 oa' H1 σ ρ' → (∀ i b, oa' i = some b → oa i = some b) →
  (∀ i b, oa i = some b → oa' i = some b ∨ i ∈ s.lk) → Wk K w (Gd A0 H0 oa' []) H1 J ds → R J H1
structure SI (X : Cx) (A0 : Addr → Prop) (H0 : Hp) (tg e : Expr) (s : Src) : Prop where
  pi : PI X tg e (tSrc X.K X.w A0 H0 s)
theorem piI {X : Cx} {tg e : Expr} {t t' : TI} (h : PI X tg e t) (i : ∀ σ H Q, t' σ H Q → t σ H Q) : PI X tg e t' := ⟨fun pins s σ H Q I q => h.run pins s σ H Q I (i σ H Q q)⟩
theorem for_gen {K : PySem.W.Frag} {w : World} {g : TG} {tg : D → Rho → Option Rho} {J : It} {E : Ends} {σ : L2.St} {H1 : Hp} {oa : Ow} {ρ : Rho} {o : Out} {ds : List D} {ts : List Nat} (hw : Wk K w (Gd A0 H0 oa []) H1 J ds)
    (hg : SGok K w A0 H0 g tg ts)
    (E1 : EnvOk K w A0 H0 oa H1 σ ρ) (ev : forR tg m ds ρ = some o) (P : Post K w A0 H0 oa H1 E o) :
    ∃ W : Nat → Nat → L2.St → Hp → Prop, (∃ m, W 0 m σ H1) ∧ ∀ i n σ H, W i n σ H →
      (J.stop i H ∧ E.nx σ H) ∨ (J.go i H ∧ ∃ N : L2.St → Hp → Prop, (∀ σ' H', N σ' H' → ∃ n', n' < n ∧ W (i + 1) n' σ' H') ∧ ∀ x H', J.yld i H x H' → g x σ H' fun σ2 H2 => tS K w A0 H0 m { E with nx := N, ct := N, bk := E.nx } σ2 H2) := by
  obtain ⟨G, Y, hw, hG, hY⟩ := hw.ex
  let Pv : Nat → L2.St → Hp → Prop := fun i σ' H' => (∃ oa' ρ', EnvOk K w A0 H0 oa' H' σ' ρ' ∧ Fr oa H1 oa' H' ∧ forR tg m (ds.drop i) ρ' = some o ∧ Post K w A0 H0 oa' H' E o)
  refine for_it hw Pv ⟨oa, ρ, E1, .same (Same.refl _) (fun i b e => .inl ⟨i, e⟩), ev, P⟩ (fun i σ' H' _ ⟨oa', ρ', E', F', _⟩ => hG _ H' (F'.kp E1)) (fun i x σ' H' H'' hi ⟨oa', ρ', E', F', ev', P'⟩ y => ?_) (fun σ' H' ⟨oa', ρ', E', F', ev', P'⟩ => ?_)
  · have ed : ds[i]? = some ds[i] := List.getElem?_eq_getElem hi
    obtain ⟨s2, r2⟩ := hY _ H' i ds[i] x H'' (F'.kp E1) (fun b n => gd_new E' n) ed y
    rw [List.drop_eq_getElem_cons hi] at ev'
    unfold forR at ev'
    obtain ⟨ρ1, e1, ev'⟩ := Option.bind_eq_some_iff.mp ev'
    obtain ⟨o1, e2, ev'⟩ := Option.bind_eq_some_iff.mp ev'
    have F2 : Fr oa' H' oa' H'' := .same s2 fun i b e => .inl ⟨i, e⟩
    refine hg oa' ρ' ρ1 σ' H'' x ds[i] _ (E'.ext s2) r2 e1 fun oa2 σ2 E2 z _ => ⟨oa2, ρ1, o1, E2, e2, ?_⟩
    have F3 : Fr oa' H' oa2 H'' := F2.trans (.same (Same.refl _) fun i b e => .inl ⟨i, z i b e⟩)
    cases o1 with
    | nx ρ2 => exact fun oa4 σ4 H4 E4 F4 => ⟨oa4, ρ2, E4, F'.trans (F3.trans F4), ev', P'.from (F3.trans F4)⟩
    | ct ρ2 => exact fun oa4 σ4 H4 E4 F4 => ⟨oa4, ρ2, E4, F'.trans (F3.trans F4), ev', P'.from (F3.trans F4)⟩
    | bk ρ2 => cases ev'; exact fun oa4 σ4 H4 E4 F4 => P' oa4 σ4 H4 E4 (F3.trans F4)
    | rt d fr => cases ev'; exact P'
  · rw [List.drop_length] at ev'
    cases ev'
    exact P' oa' σ' H' E' (.same (Same.refl _) fun i b e => .inl ⟨i, e⟩)
def sFor (tg : D → Rho → Option Rho) (s : Src) (b : Sm) : Sm := fun ρ => (s.ev ρ).bind fun q => forR tg b q.1 q.2
theorem ss_for {t : Expr} {g : TG} {tg : D → Rho → Option Rho} {s : Src} {ts : List Nat} (hp : PassesOwn (model X.prog X.w) X.A X.env X.xe) (hc : X.calm = true) (hi : SI X A0 H0 t e s) (hg : SG X A0 H0 t g tg ts) (hb : SSs X A0 H0 rest m) (hs : ∀ y, foldedSetIterable e X.env y = pure y := by intro _; rfl) :
    SS X A0 H0 (.For t e rest [] pos) (sFor tg s m) := by
  refine ⟨psI (ps_for hp hc hi.pi hg.pg hb.pss hs) fun E σ H ⟨oa, ρ, o, En, ev, P⟩ => ?_⟩
  obtain ⟨⟨ds, ρ'⟩, e1, ev⟩ := Option.bind_eq_some_iff.mp ev
  exact ⟨oa, ρ, ds, ρ', En, e1, fun J H1 oa' s1 E' z _ hw => for_gen hw hg.ok E' ev (P.from (.same s1 fun i b e => .inl ⟨i, z i b e⟩))⟩
end
end Wd
set_option maxRecDepth 100000
set_option maxHeartbeats 2000000
/-! For loops, stores into lists, defs and calls. -/
namespace Wd
open PySem PySem.Spec L2

/-! ### for over a value -/
def dItems : D → Option (List D)
  | .list xs => some xs
  | .tuple xs => some xs
  | .str z => if z.length ≤ LIM then some (z.cps.toList.map fun c => .str ⟨#[c]⟩) else none
  | .dict kvs => scrOf kvs
  | _ => none
def iSeq (K : PySem.W.Frag) (tl : TE) : TI := fun σ H R => iList K tl σ H R ∨ iTup K tl σ H R ∨ iStr tl σ H R
theorem pi_seq {X : Cx} {tg l : Expr} {tl : TE} (hl : PE X l tl) : PI X tg l (iSeq X.K tl) := ⟨fun pins s σ H R I h => by
  rcases h with h | h | h
  · exact (pi_list hl).run pins s σ H R I h
  · exact (pi_tup hl).run pins s σ H R I h
  · exact (pi_str hl).run pins s σ H R I h⟩
theorem repL_ints {K : PySem.W.Frag} {w : World} {G : Addr → Prop} {H : Hp} : ∀ ns : List Int, RepL K w G H (ns.map V.int) (ns.map .int)
  | [] => .nil
  | n :: ns => .cons (.int n) (repL_ints ns)
section
variable {K : PySem.W.Frag} {w : World} {A0 : Addr → Prop} {H0 H H1 H' : Hp} {oa oa' : Ow} {σ : L2.St} {ρ : Rho}
/-- a settled value: an object that stays -/
theorem EnvOk.settled' (E : EnvOk K w A0 H0 oa H1 σ ρ) {lk il : List Nat} {v : V} {d : D} {fr : Bool} (s : Same H1 H) (r : ResX K w A0 H0 oa lk il H1 H v d fr) : ∃ oa', EnvOk K w A0 H0 oa' H σ (Wd.settle lk d fr ρ) ∧ (∀ i b, oa' i = some b → oa i = some b) ∧ (∀ i b, oa i = some b → oa' i = some b ∨ i ∈ lk) ∧ Rep K w (Gd A0 H0 oa' []) H v d := by
  obtain ⟨oa', E', z, h1, h2, m⟩ := E.settle s r
  refine ⟨oa', E'.ext s, z, m, ?_⟩
  cases fr with
  | false => exact h1 rfl
  | true =>
    obtain ⟨a, rfl, hn, t⟩ := h2 rfl
    exact t.rep (gd_new E' hn) fun b g => g.1
theorem EnvOk.settled (E : EnvOk K w A0 H0 oa H1 σ ρ) {lk il : List Nat} {v : V} {d : D} {fr : Bool} (s : Same H1 H) (r : ResX K w A0 H0 oa lk il H1 H v d fr) : ∃ oa', EnvOk K w A0 H0 oa' H σ (Wd.settle lk d fr ρ) ∧ Fr oa H1 oa' H ∧ Rep K w (Gd A0 H0 oa' []) H v d := by
  obtain ⟨oa', E', z, _, r⟩ := E.settled' s r
  exact ⟨oa', E', .same s fun i b e => .inl ⟨i, z i b e⟩, r⟩
theorem wk_lst {G : Addr → Prop} {a : Addr} {us : List V} {ds : List D} (g : G a) (h : H a = some (.lst us)) (r : RepL K w G H us ds) : Wk K w G H (Itl K a) ds := by
  refine ⟨fun H => SqL K H a us, YAt us, by rw [← r.length]; exact walk_list, fun G' H' k => SqL.of (k.at_ a _ g h), fun G' H' i d x H'' k _ ed y => ?_⟩
  obtain ⟨rfl, hx⟩ := y
  obtain ⟨u, eu, ru⟩ := (r.keep k).get ed
  rw [hx] at eu
  cases eu
  exact ⟨Same.refl _, ru⟩
theorem wk_scr {G : Addr → Prop} {a : Addr} {us : List V} {ds : List D} (h : SqF K H a us) (r : RepL K w G H us ds) : Wk K w G H (Itl K a) ds := by
  refine ⟨fun H => SqL K H a us, YAt us, by rw [← r.length]; exact walk_list, fun G' H' k => (k.seqF h).l, fun G' H' i d x H'' k _ ed y => ?_⟩
  obtain ⟨rfl, hx⟩ := y
  obtain ⟨u, eu, ru⟩ := (r.keep k).get ed
  rw [hx] at eu
  cases eu
  exact ⟨Same.refl _, ru⟩
theorem wk_tup {G : Addr → Prop} {a : Addr} {us : List V} {ds : List D} (h : SqT K H a us) (r : RepL K w G H us ds) : Wk K w G H (Itt K a) ds := by
  refine ⟨fun H => SqT K H a us, YAt us, by rw [← r.length]; exact walk_tup, fun G' H' k => k.seqT h, fun G' H' i d x H'' k _ ed y => ?_⟩
  obtain ⟨rfl, hx⟩ := y
  obtain ⟨u, eu, ru⟩ := (r.keep k).get ed
  rw [hx] at eu
  cases eu
  exact ⟨Same.refl _, ru⟩
theorem wk_str {G : Addr → Prop} {z : Str} : Wk K w G H (Its z) (z.cps.toList.map fun c => .str ⟨#[c]⟩) := by
  have hl : (z.cps.toList.map fun c => PyData.str ⟨#[c]⟩).length = z.cps.size := by rw [List.length_map]; simp
  refine ⟨fun _ => True, fun i H v H' => H' = H ∧ ∃ c, z.cps[i]? = some c ∧ v = .str ⟨#[c]⟩, by rw [hl]; exact walk_str, fun _ _ _ => True.intro, fun G' H' i d x H'' k _ ed y => ?_⟩
  obtain ⟨rfl, c, hc, rfl⟩ := y
  rw [List.getElem?_map] at ed
  have hc' : z.cps.toList[i]? = some c := by simpa using hc
  rw [hc'] at ed
  cases ed
  exact ⟨Same.refl _, .str _⟩
end
def srcV (x : Ex) : Src := ⟨fun ρ => (x.ev ρ).bind fun dv => (dItems dv.1).bind fun ds => some (ds, settle x.lk dv.1 dv.2 ρ), x.lk⟩
def rangeD (lo hi : Int) : List D := (List.range (hi - lo).toNat).map fun (k : Nat) => .int (lo + k)
def rgOk (n : Int) : Bool := decide (-(10000000 : Int) ≤ n) && decide (n ≤ 10000000)
def srcR1 (x : Ex) : Src := ⟨fun ρ => (x.ev ρ).bind fun dv => match dv.1 with
  | .int n => if rgOk n = true then some (rangeD 0 n, ρ) else none
  | _ => none, []⟩
def srcR2 (x y : Ex) : Src := ⟨fun ρ => (x.ev ρ).bind fun dv => (y.ev ρ).bind fun du => match dv.1, du.1 with
  | .int lo, .int hi => if (rgOk lo && rgOk hi) = true then some (rangeD lo hi, ρ) else none
  | _, _ => none, []⟩
theorem rgOk_lt {n : Int} (h : rgOk n = true) : -(2 ^ 62) ≤ n ∧ n < 2 ^ 62 := by
  unfold rgOk at h
  rw [Bool.and_eq_true] at h
  have h1 := of_decide_eq_true h.1
  have h2 := of_decide_eq_true h.2
  omega
theorem rangeD_len (lo hi : Int) : (rangeD lo hi).length = (hi - lo).toNat := by simp [rangeD]
theorem wk_range {K : PySem.W.Frag} {w : World} {G : Addr → Prop} {H : Hp} {lo hi : Int} : Wk K w G H (Itr lo (hi - lo).toNat) (rangeD lo hi) := by
  refine ⟨fun _ => True, YFn fun i => .int (lo + i), by rw [rangeD_len]; exact walk_range, fun _ _ _ => True.intro, fun G' H' i d x H'' k _ ed y => ?_⟩
  obtain ⟨rfl, rfl⟩ := y
  unfold rangeD at ed
  rw [List.getElem?_map] at ed
  obtain ⟨j, e1, e2⟩ := Option.map_eq_some_iff.mp ed
  rw [List.getElem?_range (by have := (List.getElem?_eq_some_iff.mp e1).1; simpa using this)] at e1
  cases e1
  cases e2
  exact ⟨Same.refl _, .int _⟩
section
variable {X : Cx} {A0 : Addr → Prop} {H0 : Hp} {pos : Pos} {st : Stmt} {rest body b1 b2 : List Stmt} {m r m1 m2 : Sm} {e t : Expr} {x : Ex} {g : TG} {tg : D → Rho → Option Rho}
theorem si_val (he : SE X A0 H0 e x) : SI X A0 H0 t e (srcV x) := by
  refine ⟨piI (pi_seq he.pe) fun σ H R ⟨oa, ρ, ds, ρ', En, ev, k⟩ => ?_⟩
  obtain ⟨⟨d, fr⟩, e1, ev⟩ := Option.bind_eq_some_iff.mp ev
  obtain ⟨ds', e2, ev⟩ := Option.bind_eq_some_iff.mp ev
  cases ev
  cases d with
  | list xs =>
    refine .inl ⟨oa, ρ, _, fr, En, e1, fun v H1 s1 r1 => ?_⟩
    obtain ⟨oa', E', z, mm, r'⟩ := En.settled' s1 r1
    obtain ⟨a, us, rfl, ga, ha, ra⟩ := r'.lst_inv
    cases e2
    exact ⟨a, rfl, ⟨us, SqL.of ha⟩, k _ H1 oa' s1 E' z mm (wk_lst ga ha ra)⟩
  | tuple xs =>
    refine .inr (.inl ⟨oa, ρ, _, fr, En, e1, fun v H1 s1 r1 => ?_⟩)
    obtain ⟨oa', E', z, mm, r'⟩ := En.settled' s1 r1
    obtain ⟨a, us, rfl, ha, ra⟩ := r'.tup_inv
    cases e2
    exact ⟨a, rfl, ⟨us, ha⟩, k _ H1 oa' s1 E' z mm (wk_tup ha ra)⟩
  | str z =>
    refine .inr (.inr ⟨oa, ρ, _, fr, En, e1, fun v H1 s1 r1 => ?_⟩)
    obtain ⟨oa', E', zz, mm, r'⟩ := En.settled' s1 r1
    unfold dItems at e2
    dsimp only at e2
    split at e2
    · cases e2
      exact ⟨z, r'.str_inv, k _ H1 oa' s1 E' zz mm wk_str⟩
    · cases e2
  | dict kvs =>
    refine .inl ⟨oa, ρ, _, fr, En, e1, fun v H1 s1 r1 => ?_⟩
    obtain ⟨oa', E', z, mm, r'⟩ := En.settled' s1 r1
    have e2 : scrOf kvs = some ds := e2
    rcases RepT.dic_inv (.inl r') with ⟨a, ns, rfl, hf, hs⟩ | ⟨a, o, rfl, f⟩
    · rw [hs] at e2
      cases e2
      exact ⟨a, rfl, ⟨_, hf.l⟩, k _ H1 oa' s1 E' z mm (wk_scr hf (repL_ints ns))⟩
    · rw [f.noscr] at e2
      cases e2
  | _ => cases e2
theorem si_R1 {n : Expr} (hi : ∀ ta, PA X [n] ta → PI X t e (iRng1 ta)) (hs1 : starEach [n] X.env = (false, eval n X.env) :: starEach [] X.env) (hn : SE X A0 H0 n x) : SI X A0 H0 t e (srcR1 x) := by
  refine ⟨piI (hi _ (pa_cons hn.pe pa_nil hs1)) fun σ H R ⟨oa, ρ, ds, ρ', En, ev, k⟩ => ?_⟩
  obtain ⟨⟨d, fr⟩, e1, ev⟩ := Option.bind_eq_some_iff.mp ev
  dsimp only at ev
  split at ev
  · next n =>
    split at ev
    · next hr =>
      cases ev
      obtain ⟨q1, q2⟩ := rgOk_lt hr
      refine ⟨oa, ρ, _, fr, En, e1, fun v H1 s1 r1 => ⟨n, by rw [r1.rep.int_inv], q1, q2, ?_⟩⟩
      have z := k (Itr 0 (n - 0).toNat) H1 oa s1 (En.ext s1) (fun _ _ e => e) (fun _ _ e => .inl e) (wk_range (lo := 0) (hi := n))
      rw [Int.sub_zero] at z
      exact z
    · cases ev
  · cases ev
theorem si_R2 {y : Ex} {n k2 : Expr} (hi : ∀ ta, PA X [n, k2] ta → PI X t e (iRng2 ta)) (hs1 : starEach [n, k2] X.env = (false, eval n X.env) :: starEach [k2] X.env) (hs2 : starEach [k2] X.env = (false, eval k2 X.env) :: starEach [] X.env) (hn : SE X A0 H0 n x) (hk : SE X A0 H0 k2 y) : SI X A0 H0 t e (srcR2 x y) := by
  refine ⟨piI (hi _ (pa_cons hn.pe (pa_cons hk.pe pa_nil hs2) hs1)) fun σ H R ⟨oa, ρ, ds, ρ', En, ev, k⟩ => ?_⟩
  obtain ⟨⟨d, fr⟩, e1, ev⟩ := Option.bind_eq_some_iff.mp ev
  obtain ⟨⟨d2, fr2⟩, e2, ev⟩ := Option.bind_eq_some_iff.mp ev
  dsimp only at ev
  split at ev
  · next _ _ lo hi2 _ =>
    split at ev
    · next hr =>
      cases ev
      rw [Bool.and_eq_true] at hr
      obtain ⟨q1, q2⟩ := rgOk_lt hr.1
      obtain ⟨q3, q4⟩ := rgOk_lt hr.2
      refine ⟨oa, ρ, _, fr, En, e1, fun v H1 s1 r1 => ⟨oa, ρ, _, fr2, En.ext s1, e2, fun u H2 s2 r2 => ⟨lo, hi2, by rw [r1.rep.int_inv, r2.rep.int_inv], ⟨q1, q2, q3, q4⟩, ?_⟩⟩⟩
      exact k _ H2 oa (s1.trans s2) (En.ext (s1.trans s2)) (fun _ _ e => e) (fun _ _ e => .inl e) wk_range
    · cases ev
  · cases ev

/-! ### name op= e -/
def dAug : D → D → Option D
  | .int i, .int j => some (.int (i + j))
  | .str x, .str y => if x.length + y.length ≤ LIM then some (.str (x ++ y)) else none
  | _, _ => none
def dAugS : D → D → Option D
  | .int i, .int j => some (.int (i - j))
  | _, _ => none
def sAug (f : D → D → Option D) (i : Nat) (x : Ex) : Sm := fun ρ => (getR ρ i).bind fun a => (x.ev ρ).bind fun b => (f a b.1).bind fun d => some (.nx (ρ.set i (.val d)))
theorem ss_aug {i : Nat} {n : Str} {p : Pos} {op : Operator} {r : R2} {f : D → D → Option D} (hN : X.N.Nodup) (hi : X.N[i]? = some n) (hx : Loc X.env.scope n) (he : SE X A0 H0 e x) (ho : OpR X (inplaceOp op) r)
    (h : ∀ (G G1 : Addr → Prop) (a b d : D) (u v : V) (H : Hp) (Q : VK), f a b = some d → Rep X.K X.w G H u a → Rep X.K X.w G1 H v b → (∀ z, (∀ G' H', Rep X.K X.w G' H' z d) → Q z H) → r u v H Q)
    (hf : X.fn n = true ∨ X.env.scope.names.lookup n = some .local := by first | exact .inl rfl | exact .inr rfl | assumption) : SS X A0 H0 (.AugAssign (.Name n p) op e pos) (sAug f i x) := by
  refine ⟨psI (ps_aug hN hi hx he.pe ho hf) fun E σ H ⟨oa, ρ, o, En, ev, P⟩ => ?_⟩
  obtain ⟨a, e1, ev⟩ := Option.bind_eq_some_iff.mp ev
  obtain ⟨⟨b, fr⟩, e2, ev⟩ := Option.bind_eq_some_iff.mp ev
  obtain ⟨d, e3, ev⟩ := Option.bind_eq_some_iff.mp ev
  cases ev
  obtain ⟨u, eu, ru⟩ := En.get e1
  refine ⟨u, eu, oa, ρ, b, fr, En, e2, fun v H1 s1 r1 => ?_⟩
  refine h _ _ a b d u v H1 _ e3 (ru.same s1) r1.rep fun z rz => ?_
  exact P (oaDel oa i) _ H1 ((En.ext s1).setV i (rz _ _)) (.same s1 fun j b z => .inl ⟨j, (oaDel_some z).2⟩)
theorem s_aug_add {K : PySem.W.Frag} {w : World} : ∀ (G G1 : Addr → Prop) (a b d : D) (u v : V) (H : Hp) (Q : VK), dAug a b = some d → Rep K w G H u a → Rep K w G1 H v b → (∀ z, (∀ G' H', Rep K w G' H' z d) → Q z H) →
    ((rI0 fun i j => .int (i + j)) u v H Q ∨ (∃ i j, u = .str i ∧ v = .str j ∧ i.length + j.length ≤ sizeLine ∧ Q (.str (i ++ j)) H)) := by
  intro G G1 a b d u v H Q e r1 r2 k
  unfold dAug at e
  split at e
  · cases e; cases r1.int_inv; cases r2.int_inv; exact .inl ⟨_, _, rfl, rfl, k _ fun _ _ => .int _⟩
  · split at e
    · next hz => cases e; cases r1.str_inv; cases r2.str_inv; exact .inr ⟨_, _, rfl, rfl, lim_le hz, k _ fun _ _ => .str _⟩
    · cases e
  · cases e
theorem s_aug_sub {K : PySem.W.Frag} {w : World} : ∀ (G G1 : Addr → Prop) (a b d : D) (u v : V) (H : Hp) (Q : VK), dAugS a b = some d → Rep K w G H u a → Rep K w G1 H v b → (∀ z, (∀ G' H', Rep K w G' H' z d) → Q z H) → (rI0 fun i j => .int (i - j)) u v H Q := by
  intro G G1 a b d u v H Q e r1 r2 k
  unfold dAugS at e
  split at e
  · cases e; cases r1.int_inv; cases r2.int_inv; exact ⟨_, _, rfl, rfl, k _ fun _ _ => .int _⟩
  · cases e
theorem iop_addA : OpR X (inplaceOp .Add) (fun x y H Q => (rI0 fun i j => .int (i + j)) x y H Q ∨ (∃ i j, x = .str i ∧ y = .str j ∧ i.length + j.length ≤ sizeLine ∧ Q (.str (i ++ j)) H)) := iop_add.or iop_add_str

/-! ### what is owned is changed -/
/-- an owned list changes; the heap may have grown ahead of it -/
theorem EnvOk.store {K : PySem.W.Frag} {w : World} {H H1 : Hp} {oa : Ow} {σ : L2.St} {ρ : Rho} (E : EnvOk K w A0 H0 oa H σ ρ) {i : Nat} {a : Addr} {d : D} {o : HO} (ea : oa i = some a) (mo : Mut (some o)) (t : Top K w (Gd A0 H0 oa []) (upd H a o) a d) :
    EnvOk K w A0 H0 oa (upd H a o) σ (ρ.set i (.own d)) ∧ Fr oa H oa (upd H a o) := by
  obtain ⟨h0, d0, e1, e2, t0⟩ := E.own i a ea
  have hi : i < ρ.length := (List.getElem?_eq_some_iff.mp e1).1
  obtain ⟨o0, ho0, mo0⟩ := t0.there
  have ne : ∀ b u, H b = some u → ¬ Mut (some u) → b ≠ a := fun b u h n z => by
    subst z
    rw [ho0] at h; cases h
    exact n mo0
  have kp : Kp K (Gd A0 H0 oa []) (Gd A0 H0 oa []) H (upd H a o) := ⟨fun b xs h => by rw [upd_ne (ne b _ h fun z => z)]; exact h, fun b ob u h => by rw [upd_ne (ne b _ h fun z => z)]; exact h, fun b ob g h => by
    have n : b ≠ a := fun z => by subst z; exact nomatch g.2 i ea
    rw [upd_ne n]; exact h, fun b g _ => g⟩
  refine ⟨⟨by rw [List.length_set]; exact E.len, fun b ob h => ?_, fun b n => E.new b (by
    by_cases z : b = a
    · subst z; rw [upd_same] at n; cases n
    · rw [upd_ne z] at n; exact n), E.ownA, fun j b e => ?_, E.inj, fun j d' e => ?_, fun j d' e => ?_⟩, ⟨fun b ob h n => ⟨?_, n⟩⟩⟩
  · have n : b ≠ a := fun z => by subst z; rw [h0] at h; cases h
    rw [upd_ne n]
    exact E.same _ _ h
  · by_cases hj : j = i
    · subst hj
      rw [ea] at e; cases e
      exact ⟨h0, d, by rw [List.getElem?_set_self hi], e2, t⟩
    · obtain ⟨h1, d1, e3, e4, t1⟩ := E.own j b e
      have n : b ≠ a := fun z => hj (E.inj j i a (by rw [← z]; exact e) ea)
      exact ⟨h1, d1, by rw [List.getElem?_set_ne (Ne.symm hj)]; exact e3, e4, t1.keep kp fun ob h => by rw [upd_ne n]; exact h⟩
  · by_cases hj : j = i
    · subst hj; exact ⟨a, ea⟩
    · rw [List.getElem?_set_ne (Ne.symm hj)] at e
      exact E.has j d' e
  · by_cases hj : j = i
    · subst hj
      rw [List.getElem?_set_self hi] at e
      cases e
    · rw [List.getElem?_set_ne (Ne.symm hj)] at e
      obtain ⟨v, e3, r⟩ := E.val j d' e
      exact ⟨v, e3, r.keep kp⟩
  · rw [upd_ne fun z => n i (by rw [z]; exact ea)]
    exact h
/-- the owned list of a slot -/
def ownL (ρ : Rho) (i : Nat) : Option (List D) := match ρ[i]? with
  | some (.own (.list ds)) => some ds
  | _ => none
theorem ownL_eq {ρ : Rho} {i : Nat} {ds : List D} (h : ownL ρ i = some ds) : ρ[i]? = some (.own (.list ds)) := by
  unfold ownL at h
  split at h
  · next e => cases h; exact e
  · cases h
/-- xs.append(e) -/
def sApp (i : Nat) (x : Ex) : Sm := fun ρ => (x.ev ρ).bind fun dv => (ownL (settle x.lk dv.1 dv.2 ρ) i).bind fun ds => if ds.length < LIM then some (.nx ((settle x.lk dv.1 dv.2 ρ).set i (.own (.list (ds ++ [dv.1]))))) else none
theorem settle_get {lk : List Nat} {d : D} {fr : Bool} {ρ : Rho} {i : Nat} {c : D} (h : (settle lk d fr ρ)[i]? = some (C.own c)) : ρ[i]? = some (C.own c) := by
  have dm : ∀ (ρ : Rho) (j : Nat), (demote ρ j)[i]? = some (C.own c) → ρ[i]? = some (C.own c) := fun ρ j h => by
    unfold demote at h
    split at h
    · by_cases hj : j = i
      · subst hj
        rw [List.getElem?_set] at h
        simp only [if_true] at h
        split at h <;> cases h
      · rw [List.getElem?_set_ne hj] at h
        exact h
    · exact h
  have un : ∀ (ls : List Nat) (ρ : Rho), (unown ls ρ)[i]? = some (C.own c) → ρ[i]? = some (C.own c) := fun ls => by
    induction ls with
    | nil => exact fun ρ h => h
    | cons j r ih => exact fun ρ h => dm ρ j (ih _ h)
  unfold settle at h
  split at h
  · exact h
  · split at h
    · exact h
    · exact un _ _ h
theorem tyV_lst {K : PySem.W.Frag} {H : Hp} {a : Addr} {xs : List V} (h : H a = some (.lst xs)) : tyV K "list" (.ref a) H := Or.inl ⟨rfl, _, Or.inl (Or.inl h)⟩
theorem ss_app {i : Nat} (hs : ∀ t, PA X [e] t → PS X st (tDrop (tBM X.K "list" rAppend (tVar i) t))) (hst : starEach [e] X.env = (false, eval e X.env) :: starEach [] X.env) (he : SE X A0 H0 e x) : SS X A0 H0 st (sApp i x) := by
  refine ⟨psI (hs _ (pa_cons he.pe pa_nil hst)) fun E σ H ⟨oa, ρ, o, En, ev, P⟩ => ?_⟩
  obtain ⟨⟨d, fr⟩, e1, ev⟩ := Option.bind_eq_some_iff.mp ev
  obtain ⟨ds, e2, ev⟩ := Option.bind_eq_some_iff.mp ev
  split at ev
  · next hl =>
    cases ev
    have eo := ownL_eq e2
    obtain ⟨a, ea⟩ := En.has i _ (settle_get eo)
    obtain ⟨h0, d1, e3, e4, t⟩ := En.own i a ea
    rw [settle_get eo] at e3
    cases e3
    cases t with
    | lst ha ra =>
      refine ⟨_, e4, tyV_lst ha, oa, ρ, d, fr, En, e1, fun v H1 s1 r1 => ⟨a, _, v, rfl, rfl, s1 _ _ ha, ?_, ?_⟩⟩
      · rw [ra.length]; exact lim_lt hl
      obtain ⟨oa', E', F', r'⟩ := En.settled s1 r1
      obtain ⟨a', ea'⟩ := E'.has i _ eo
      obtain ⟨h0', d2, e5, e6, t'⟩ := E'.own i a' ea'
      rw [eo] at e5
      cases e5
      rw [e4] at e6
      cases e6
      cases t' with
      | lst ha' ra' =>
        have q := s1 _ _ ha
        rw [q] at ha'
        cases ha'
        obtain ⟨E2, F2⟩ := E'.store (H1 := H1) (d := .list (ds ++ [d])) (o := .lst (_ ++ [v])) ea' True.intro (.lst upd_same ((ra'.append (.one r')).keep ⟨fun b xs h => by rw [upd_ne (ne_of h q fun z => nomatch z)]; exact h, fun b ob u h => by rw [upd_ne (ne_of h q fun z => nomatch z)]; exact h, fun b ob g h => by
          have n : b ≠ a := fun z => by subst z; exact nomatch g.2 i ea'
          rw [upd_ne n]; exact h, fun b g _ => g⟩))
        exact P oa' σ _ E2 (F'.trans F2)
  · cases ev
/-- xs[k] = e -/
def sSetL (i : Nat) (k x : Ex) : Sm := fun ρ => (x.ev ρ).bind fun dv => (k.ev ρ).bind fun kv => match kv.1 with
  | .int z => (ownL (settle x.lk dv.1 dv.2 ρ) i).bind fun ds => (ixN ds.length z).bind fun j => some (.nx ((settle x.lk dv.1 dv.2 ρ).set i (.own (.list (ds.set j dv.1)))))
  | _ => none
theorem ss_setL {i : Nat} {ke : Expr} {k : Ex} (hs : ∀ te tk, PE X e te → PE X ke tk → PS X st (tAsg te (gSub (tVar i) tk rSetL))) (he : SE X A0 H0 e x) (hk : SE X A0 H0 ke k) : SS X A0 H0 st (sSetL i k x) := by
  refine ⟨psI (hs _ _ he.pe hk.pe) fun E σ H ⟨oa, ρ, o, En, ev, P⟩ => ?_⟩
  obtain ⟨⟨d, fr⟩, e1, ev⟩ := Option.bind_eq_some_iff.mp ev
  obtain ⟨⟨z, frk⟩, ek, ev⟩ := Option.bind_eq_some_iff.mp ev
  dsimp only at ev
  split at ev
  · next z =>
    obtain ⟨ds, e2, ev⟩ := Option.bind_eq_some_iff.mp ev
    obtain ⟨j, ej, ev⟩ := Option.bind_eq_some_iff.mp ev
    cases ev
    have eo := ownL_eq e2
    refine ⟨oa, ρ, d, fr, En, e1, fun v H1 s1 r1 => ?_⟩
    obtain ⟨oa', E', F', r'⟩ := En.settled s1 r1
    obtain ⟨a', ea'⟩ := E'.has i _ eo
    obtain ⟨h0', d2, e5, e6, t'⟩ := E'.own i a' ea'
    rw [eo] at e5
    cases e5
    refine ⟨_, e6, oa, ρ, _, frk, En.ext s1, ek, fun u H2 s2 r2 => ?_⟩
    cases t' with
    | lst ha' ra' =>
      have q := s2 _ _ ha'
      have ra2 := ra'.same s2
      refine ⟨a', _, z, j, rfl, r2.rep.int_inv, q, by rw [ra'.length]; exact ej, ?_⟩
      obtain ⟨E2, F2⟩ := (E'.ext s2).store (H1 := H2) (d := .list (ds.set j d)) (o := .lst (_)) ea' True.intro (.lst upd_same ((RepL.set (r'.same s2) j ra2).keep ⟨fun b xs h => by rw [upd_ne (ne_of h q fun z => nomatch z)]; exact h, fun b ob u h => by rw [upd_ne (ne_of h q fun z => nomatch z)]; exact h, fun b ob g h => by
        have n : b ≠ a' := fun z => by subst z; exact nomatch g.2 i ea'
        rw [upd_ne n]; exact h, fun b g _ => g⟩))
      exact P oa' σ _ E2 ((F'.trans (.same s2 fun i b e => .inl ⟨i, e⟩)).trans F2)
  · cases ev

/-! ### a, b = .. -/
/-- a tuple taken apart -/
def sUnp (is : List Nat) (x : Ex) : Sm := fun ρ => (x.ev ρ).bind fun dv => (tgT is dv.1 (settle x.lk dv.1 dv.2 ρ)).bind fun ρ' => some (.nx ρ')
theorem ss_unp {is : List Nat} (hs : ∀ te, PE X e te → PG X t g → PS X st (tAsg te g)) (he : SE X A0 H0 e x) {ts : List Nat} (hg : SG X A0 H0 t g (tgT is) ts) : SS X A0 H0 st (sUnp is x) := by
  refine ⟨psI (hs _ he.pe hg.pg) fun E σ H ⟨oa, ρ, o, En, ev, P⟩ => ?_⟩
  obtain ⟨⟨d, fr⟩, e1, ev⟩ := Option.bind_eq_some_iff.mp ev
  obtain ⟨ρ', e2, ev⟩ := Option.bind_eq_some_iff.mp ev
  cases ev
  refine ⟨oa, ρ, d, fr, En, e1, fun v H1 s1 r1 => ?_⟩
  obtain ⟨oa', E', F', r'⟩ := En.settled s1 r1
  exact hg.ok oa' _ _ σ H1 v d _ E' r' e2 fun oa2 σ2 E2 z _ => P oa2 σ2 H1 E2 (F'.trans (.same (Same.refl _) fun i b e => .inl ⟨i, z i b e⟩))
/-- a, b = x, y: stored from the right -/
def sPar (i j : Nat) (x y : Ex) : Sm := fun ρ => (x.ev ρ).bind fun dv => (y.ev ρ).bind fun du => some (.nx (((unown (x.lk ++ y.lk) ρ).set i (.val dv.1)).set j (.val du.1)))
theorem ss_par {i j : Nat} {a b : Expr} {y : Ex} (hs : ∀ ta, PA X [a, b] ta → PS X st (tPar i j ta)) (hs1 : starEach [a, b] X.env = (false, eval a X.env) :: starEach [b] X.env) (hs2 : starEach [b] X.env = (false, eval b X.env) :: starEach [] X.env) (ha : SE X A0 H0 a x) (hb : SE X A0 H0 b y) : SS X A0 H0 st (sPar i j x y) := by
  refine ⟨psI (hs _ (pa_cons ha.pe (pa_cons hb.pe pa_nil hs2) hs1)) fun E σ H ⟨oa, ρ, o, En, ev, P⟩ => ?_⟩
  obtain ⟨⟨d, fr⟩, e1, ev⟩ := Option.bind_eq_some_iff.mp ev
  obtain ⟨⟨d2, fr2⟩, e2, ev⟩ := Option.bind_eq_some_iff.mp ev
  cases ev
  refine ⟨oa, ρ, d, fr, En, e1, fun v H1 s1 r1 => ⟨oa, ρ, d2, fr2, En.ext s1, e2, fun u H2 s2 r2 => ⟨v, u, rfl, ?_⟩⟩⟩
  obtain ⟨oa', E', g', z', _⟩ := (En.ext (s1.trans s2)).unown (x.lk ++ y.lk)
  have q1 : Rep X.K X.w (Gd A0 H0 oa' []) H2 v d := (r1.rep.same s2).keep (.refl fun b g _ => g' b (g.mono fun i h => List.mem_append_left _ h))
  have q2 : Rep X.K X.w (Gd A0 H0 oa' []) H2 u d2 := r2.rep.keep (.refl fun b g _ => g' b (g.mono fun i h => List.mem_append_right _ h))
  have E3 := (E'.setV i q1).setV j (q2.keep (.refl fun b g _ => gd_del0 g))
  exact P _ _ H2 E3 (.same (s1.trans s2) fun k b e => .inl ⟨k, z' k b (oaDel_some (oaDel_some e).2).2⟩)
end

/-! ### defs -/
def runF (n N : Nat) (m : Sm) (ds : List D) : Option (D × Bool) := if ds.length = n then (m (ds.map C.val ++ List.replicate (N - n) C.un)).bind fun o => match o with
  | .rt d fr => some (d, fr)
  | .nx _ => some (.none, false)
  | _ => none else none
def spOf (K : PySem.W.Frag) (w : World) (n : Nat) (f : List D → Option (D × Bool)) : Sp := fun vs H Q _ => ∃ A ds d fr, RepL K w A H vs ds ∧ ds.length = n ∧ f ds = some (d, fr) ∧ ∀ v H', Same H H' → RRes K w (fun b => A b ∨ H b = none) H H' v d fr → Q v H'
theorem env_start {K : PySem.W.Frag} {w : World} {A : Addr → Prop} {H : Hp} {N : List Str} {n : Nat} {vs : List V} {ds : List D} (r : RepL K w A H vs ds) (hl : ds.length = n) : EnvOk K w (fun b => A b ∨ H b = none) H (fun _ => none) H (L2.start N vs) (ds.map C.val ++ List.replicate (N.length - n) C.un) := by
  refine ⟨?_, Same.refl H, fun b n => .inr n, fun i a e => (nomatch e), fun i a e => (nomatch e), fun i j a e => (nomatch e), fun i d e => ?_, fun i d e => ?_⟩
  · unfold L2.start
    rw [List.length_append, List.length_append, List.length_map, List.length_map, List.length_replicate, List.length_replicate, r.length, hl]
  · exfalso
    by_cases hi : i < (ds.map C.val).length
    · rw [List.getElem?_append_left hi, List.getElem?_map] at e
      obtain ⟨d', _, e2⟩ := Option.map_eq_some_iff.mp e
      cases e2
    · rw [List.getElem?_append_right (by omega), List.getElem?_replicate] at e
      split at e <;> cases e
  · by_cases hi : i < (ds.map C.val).length
    · rw [List.getElem?_append_left hi, List.getElem?_map] at e
      obtain ⟨d', e1, e2⟩ := Option.map_eq_some_iff.mp e
      cases e2
      obtain ⟨v, ev, rv⟩ := r.get e1
      refine ⟨v, ?_, rv.keep (.refl fun b g _ => ⟨.inl g, fun i e => nomatch e⟩)⟩
      unfold L2.start
      rw [List.getElem?_append_left (by rw [List.length_map, r.length]; rwa [List.length_map] at hi), List.getElem?_map, ev]
      rfl
    · rw [List.getElem?_append_right (by omega), List.getElem?_replicate] at e
      split at e <;> cases e
section
variable {P : Program} {w : World} {K : PySem.W.Frag} {mg : Str → Option Value} {base : Heap}
/-- THE RULE for a def -/
theorem fn_ok {x qual : Str} {st : Stmt} {f : Addr} {fd : FuncData} {N ps : List Str} {k : Nat} {m : Sm} (F : Fun K x qual st f fd) (S : FnScope N ps (defScope st))
    (hbody : ∀ (cdv : Value) (A : Around) (outer : List Env) (s : Shared) (H : Hp) (E : XK) (A0 : Addr → Prop), Room k (A.deeper (PyProof.Rows.envOfC qual (defScope st) s.heap.objs.size f cdv)) → SSs (cxOf CX0 P w K mg base N qual (defScope st) f cdv A outer s H E).nox A0 H (defBody st) m) :
    FnOk P w K mg base CX0 (k + 1) f fd ps (spOf K w ps.length (runF ps.length N.length m)) := by
  refine F.ok S (fun vs H Q E ⟨A, ds, d, fr, r, hl, _⟩ => by rw [r.length, hl]) fun cdv A outer s H vs Q E hr ⟨A0, ds, d, fr, r, hl, ev, q⟩ => ⟨_, (hbody cdv A outer s H E (fun b => A0 b ∨ H b = none) hr).pss, ?_⟩
  unfold runF at ev
  rw [if_pos hl] at ev
  obtain ⟨o, e1, ev⟩ := Option.bind_eq_some_iff.mp ev
  refine ⟨fun _ => none, _, o, env_start r hl, e1, ?_⟩
  cases o with
  | rt d' fr' => cases ev; exact fun v H' s r => q v H' s r
  | nx ρ' => cases ev; exact fun oa' σ' H' E' F' => q .non H' E'.same ⟨.non, fun z => nomatch z⟩
  | bk _ => cases ev
  | ct _ => cases ev
/-- nothing is asked where nothing is answered -/
theorem fn_none {f : Addr} {fd : FuncData} {ps : List Str} {k n : Nat} {g : List D → Option (D × Bool)} (h : ∀ ds, g ds = none) : FnOk P w K mg base CX0 k f fd ps (spOf K w n g) := by
  have no : ∀ vs H Q E, ¬ spOf K w n g vs H Q E := fun vs H Q E ⟨A, ds, d, fr, r, hl, ev, _⟩ => by
    rw [h ds] at ev
    cases ev
  exact ⟨fun vs H Q E h => absurd h (no vs H Q E), fun A outer s H args us vs Q E _ _ _ _ h => absurd h (no vs H Q E)⟩
end
section
variable {X : Cx} {A0 : Addr → Prop} {H0 : Hp} {pos : Pos} {e : Expr} {es : List Expr} {xs : List Ex}
/-- f(e, ..) -/
def xCall (f : List D → Option (D × Bool)) (xs : List Ex) : Ex := ⟨fun ρ => (evL ρ xs).bind f, lks xs, lks xs⟩
theorem se_call {n : Nat} {f : List D → Option (D × Bool)} (hp : ∀ t, PA X es t → PE X e (tCall (spOf X.K X.w n f) [] E0 t)) (ha : SA X A0 H0 es xs) (hn : xs.length = n) : SE X A0 H0 e (xCall f xs) := by
  refine ⟨peI (hp _ ha.pa) fun σ H Q ⟨oa, ρ, d, fr, E, ev, k⟩ => ?_⟩
  obtain ⟨ds, e1, e2⟩ := Option.bind_eq_some_iff.mp ev
  have em := evL_map e1
  refine ⟨oa, ρ, ds, E, em, fun vs H1 s1 r1 => ⟨Gd A0 H0 oa (lks xs), ds, d, fr, by rw [List.append_nil]; exact r1, ?_, e2, fun v H' s' r' => ?_⟩⟩
  · have q := congrArg List.length em
    rw [List.length_map, List.length_map] at q
    rw [← q, hn]
  have rr : Rep X.K X.w (Gd A0 H0 oa (lks xs)) H' v d := r'.1.keep (.refl fun b g _ => g.elim id fun n => gd_new (E.ext s1) n)
  refine k v H' (s1.trans s') ⟨rr, .inl rr, fun hf => ?_⟩
  obtain ⟨a, q1, q2, t⟩ := r'.2 hf
  exact ⟨a, q1, s1.free q2, t.keep (.refl fun b g _ => ⟨g.1.elim id fun n => gd_new (E.ext s1) n, g.2⟩) fun o z => z⟩
end

/-! ### the law -/
theorem law_sp {K : PySem.W.Frag} {w : World} {f : List D → Option (D × Bool)} (h : ∀ ns : List Int, ns.length ≤ 63 → ∃ fr, f [scrD ns] = some (.bool true, fr)) (H : Hp) (a : Addr) (ns : List Int) (hl : ns.length ≤ 63) (ho : Only H) (hs : SqL K H a (ns.map V.int)) :
    spOf K w 1 f [.ref a] H (fun v _ => v = .bl true) fun _ _ _ => False := by
  obtain ⟨fr, ef⟩ := h ns hl
  have hf : SqF K H a (ns.map V.int) := by
    rcases hs with (hs | ⟨o, hs⟩) | hs
    · rcases ho a with q | ⟨o, xs, q⟩
      · rw [q] at hs; cases hs
      · rw [q] at hs; cases hs
    · exact .inl ⟨o, hs⟩
    · exact .inr (.inr hs)
  exact ⟨fun _ => True, [scrD ns], .bool true, fr, .cons (.scr hf) .nil, rfl, ef, fun v H' s r => r.1.bool_inv⟩
end Wd
set_option maxRecDepth 100000
set_option maxHeartbeats 2000000
/-! Built-ins, slices, comprehensions. -/
namespace Wd
open PySem PySem.Spec L2

/-! ### built-ins of one value -/
/-- the rule r does what f says -/
def R1ok (K : PySem.W.Frag) (w : World) (f : D → Option (D × Bool)) (r : V → Hp → VK → Prop) : Prop := ∀ (G : Addr → Prop) (x d : D) (fr : Bool) (u : V) (H : Hp) (Q : VK), f x = some (d, fr) → RepT K w G H u x →
  (∀ z H', Same H H' → Rep K w (fun b => G b ∨ (fr = true ∧ H b = none)) H' z d ∧ (fr = true → ∃ a, z = .ref a ∧ H a = none ∧ Top K w (fun b => G b ∧ H b ≠ none) H' a d) → Q z H') → r u H Q
section
variable {X : Cx} {A0 : Addr → Prop} {H0 : Hp} {pos : Pos} {e a b c : Expr} {xa xb xc : Ex}
theorem se_1 {f : D → Option (D × Bool)} {r : V → Hp → VK → Prop} (he : ∀ ta, PE X a ta → PE X e (fun σ H Q => ta σ H fun x H1 => r x H1 Q)) (hr : R1ok X.K X.w f r) (ha : SE X A0 H0 a xa) : SE X A0 H0 e (x1 f xa.il xa) := by
  refine ⟨peI (he _ ha.pe) fun σ H Q ⟨oa, ρ, d, fr, E, ev, k⟩ => ?_⟩
  obtain ⟨⟨x, fx⟩, ex, ev⟩ := Option.bind_eq_some_iff.mp ev
  refine ⟨oa, ρ, x, fx, E, ex, fun u H1 s1 r1 => hr _ x d fr u H1 Q ev r1.top fun z H2 s2 ⟨r2, t2⟩ => ?_⟩
  have rr : Rep X.K X.w (Gd A0 H0 oa xa.il) H2 z d := r2.keep (.refl fun b g _ => g.elim id fun q => gd_new (E.ext s1) q.2)
  refine k z H2 (s1.trans s2) ⟨rr, .inl rr, fun hf => ?_⟩
  obtain ⟨p, e1, e2, t⟩ := t2 hf
  exact ⟨p, e1, s1.free e2, t.keep (.refl fun b ⟨g, n⟩ _ => ⟨g, fun z => n (by rw [z]; exact e2)⟩) fun o h => h⟩
/-- scalars alone -/
theorem se_1s {f : D → Option D} {r : V → Hp → VK → Prop} (he : ∀ ta, PE X a ta → PE X e (fun σ H Q => ta σ H fun x H1 => r x H1 Q))
    (h : ∀ (G : Addr → Prop) (x d : D) (u : V) (H : Hp) (Q : VK), f x = some d → RepT X.K X.w G H u x → (∀ z, (∀ G' H', Rep X.K X.w G' H' z d) → Q z H) → r u H Q) (ha : SE X A0 H0 a xa) : SE X A0 H0 e (x1 (sc1 f) [] xa) := by
  refine ⟨peI (he _ ha.pe) fun σ H Q ⟨oa, ρ, d, fr, E, ev, k⟩ => ?_⟩
  obtain ⟨x, fx, ex, e1, rfl⟩ := ev1 ev
  exact ⟨oa, ρ, x, fx, E, ex, fun u H1 s1 r1 => h _ x d u H1 Q e1 r1.top fun z rz => k z H1 s1 (.sc rz)⟩
/-- a built-in by its values, called with one -/
theorem call1 {r : List V → Hp → VK → Prop} (hp : ∀ t, PA X [a] t → PE X e (tCB r t)) (hst : starEach [a] X.env = (false, eval a X.env) :: starEach [] X.env) : ∀ ta, PE X a ta → PE X e (fun σ H Q => ta σ H fun x H1 => r [x] H1 Q) := fun ta h => hp _ (pa_cons h pa_nil hst)
def dAbs : D → Option D
  | .int i => some (.int (if i < 0 then -i else i))
  | _ => none
theorem s_abs {K : PySem.W.Frag} {w : World} : ∀ (G : Addr → Prop) (x d : D) (u : V) (H : Hp) (Q : VK), dAbs x = some d → RepT K w G H u x → (∀ z, (∀ G' H', Rep K w G' H' z d) → Q z H) → ∃ i, [u] = [V.int i] ∧ Q (.int (if i < 0 then -i else i)) H := by
  intro G x d u H Q e r k
  unfold dAbs at e
  split at e
  · cases e; cases r.int_inv; exact ⟨_, rfl, k _ fun _ _ => .int _⟩
  · cases e
/-- tuple(xs) -/
def dTuple : D → Option (D × Bool)
  | .list xs => some (.tuple xs, false)
  | .tuple xs => some (.tuple xs, false)
  | _ => none
theorem r1_tuple {K : PySem.W.Frag} {w : World} : R1ok K w dTuple (fun x H Q => ∃ p ys, [x] = [.ref p] ∧ ((SqL K H p ys ∧ ∀ l, H l = none → Q (.ref l) (upd H l (.tup ys))) ∨ (SqT K H p ys ∧ Q (.ref p) H))) := by
  intro G x d fr u H Q e r k
  unfold dTuple at e
  split at e
  · cases e
    obtain ⟨a, us, rfl, ha, ra⟩ := r.lst_inv
    refine ⟨a, us, rfl, .inl ⟨SqL.of ha, fun l hl => ?_⟩⟩
    have s := same_new (o := .tup us) hl
    exact k _ _ s ⟨.tup (SqT.of upd_same) (ra.keep (.same s fun b g _ => .inl g)), fun z => nomatch z⟩
  · cases e
    obtain ⟨a, us, rfl, ha, ra⟩ := r.tup_inv
    exact ⟨a, us, rfl, .inr ⟨ha, k _ H (Same.refl H) ⟨.tup ha (ra.keep (.refl fun b g _ => .inl g)), fun z => nomatch z⟩⟩⟩
  · cases e
/-- list(xs) -/
def dList : D → Option (D × Bool)
  | .list xs => some (.list xs, true)
  | .tuple xs => some (.list xs, true)
  | _ => none
theorem r1_list {K : PySem.W.Frag} {w : World} : R1ok K w dList (fun x H Q => ∃ p ys, [x] = [.ref p] ∧ (SqL K H p ys ∨ SqT K H p ys) ∧ ∀ l, H l = none → Q (.ref l) (upd H l (.lst ys))) := by
  intro G x d fr u H Q e r k
  have fin : ∀ (us : List V) (xs : List D) (p : Addr), RepL K w G H us xs → H p = none → (∀ z H', Same H H' → Rep K w (fun b => G b ∨ (true = true ∧ H b = none)) H' z (.list xs) ∧ (true = true → ∃ a, z = .ref a ∧ H a = none ∧ Top K w (fun b => G b ∧ H b ≠ none) H' a (.list xs)) → Q z H') → Q (.ref p) (upd H p (.lst us)) := fun us xs p ra hp k => by
    have s := same_new (o := .lst us) hp
    have t : Top K w (fun b => G b ∧ H b ≠ none) (upd H p (.lst us)) p (.list xs) := .lst upd_same (ra.keep (.same s fun b g n => ⟨g, n⟩))
    exact k _ _ s ⟨t.rep (.inr ⟨rfl, hp⟩) fun b g => .inl g.1, fun _ => ⟨p, rfl, hp, t⟩⟩
  unfold dList at e
  split at e
  · cases e
    obtain ⟨a, us, rfl, ha, ra⟩ := r.lst_inv
    exact ⟨a, us, rfl, .inl (SqL.of ha), fun l hl => fin us _ l ra hl k⟩
  · cases e
    obtain ⟨a, us, rfl, ha, ra⟩ := r.tup_inv
    exact ⟨a, us, rfl, .inr ha, fun l hl => fin us _ l ra hl k⟩
  · cases e
/-- the ints of a list -/
def intsOf : List D → Option (List Int)
  | [] => some []
  | .int i :: r => (intsOf r).map fun l => i :: l
  | _ :: _ => none
theorem intsOf_eq : ∀ {ds : List D} {ns : List Int}, intsOf ds = some ns → ds = ns.map .int
  | [], ns, h => by cases h; rfl
  | .int i :: r, ns, h => by
    obtain ⟨l, e1, e2⟩ := Option.map_eq_some_iff.mp h
    subst e2
    rw [intsOf_eq e1]
    rfl
  | .none :: _, _, h | .bool _ :: _, _, h | .str _ :: _, _, h | .list _ :: _, _, h | .tuple _ :: _, _, h | .dict _ :: _, _, h => by cases h
theorem intsOf_map : ∀ ns : List Int, intsOf (ns.map .int) = some ns
  | [] => rfl
  | n :: ns => by rw [List.map_cons, intsOf, intsOf_map ns]; rfl
theorem repL_vints {K : PySem.W.Frag} {w : World} {G : Addr → Prop} {H : Hp} : ∀ {us : List V} {ns : List Int}, RepL K w G H us (ns.map .int) → us = ns.map V.int
  | us, [], r => by cases r; rfl
  | us, n :: ns, r => by
    cases r with
    | cons r1 r2 => rw [r1.int_inv, repL_vints r2]; rfl
def dSum : D → Option D
  | .list ds => (intsOf ds).map fun ns => .int ns.sum
  | _ => none
theorem s_sum {K : PySem.W.Frag} {w : World} : ∀ (G : Addr → Prop) (x d : D) (u : V) (H : Hp) (Q : VK), dSum x = some d → RepT K w G H u x → (∀ z, (∀ G' H', Rep K w G' H' z d) → Q z H) → rSum K [u] H Q := by
  intro G x d u H Q e r k
  unfold dSum at e
  split at e
  · next ds =>
    obtain ⟨ns, e1, e2⟩ := Option.map_eq_some_iff.mp e
    subst e2
    obtain ⟨a, us, rfl, ha, ra⟩ := r.lst_inv
    cases intsOf_eq e1
    exact ⟨a, ns, rfl, by rw [← repL_vints ra]; exact SqL.of ha, k _ fun _ _ => .int _⟩
  · cases e
/-- the greatest, the least -/
def maxOf (n : Int) (ns : List Int) : Int := ns.foldl (fun m k => if m < k then k else m) n
def minOf (n : Int) (ns : List Int) : Int := ns.foldl (fun m k => if k < m then k else m) n
theorem maxOf_ok : ∀ (ns : List Int) (n : Int), maxOf n ns ∈ n :: ns ∧ ∀ y ∈ n :: ns, y ≤ maxOf n ns
  | [], n => ⟨List.mem_cons_self, fun y h => by rw [List.mem_singleton.mp h]; exact Int.le_refl _⟩
  | k :: ns, n => by
    obtain ⟨h1, h2⟩ := maxOf_ok ns (if n < k then k else n)
    have e : maxOf n (k :: ns) = maxOf (if n < k then k else n) ns := rfl
    rw [e]
    refine ⟨?_, fun y hy => ?_⟩
    · rcases List.mem_cons.mp h1 with q | q
      · rw [q]; split <;> simp
      · simp [q]
    · have h0 := h2 _ List.mem_cons_self
      rcases List.mem_cons.mp hy with q | hy
      · subst q
        refine Int.le_trans ?_ h0
        split <;> omega
      rcases List.mem_cons.mp hy with q | hy
      · subst q
        refine Int.le_trans ?_ h0
        split <;> omega
      · exact h2 y (List.mem_cons_of_mem _ hy)
theorem minOf_ok : ∀ (ns : List Int) (n : Int), minOf n ns ∈ n :: ns ∧ ∀ y ∈ n :: ns, minOf n ns ≤ y
  | [], n => ⟨List.mem_cons_self, fun y h => by rw [List.mem_singleton.mp h]; exact Int.le_refl _⟩
  | k :: ns, n => by
    obtain ⟨h1, h2⟩ := minOf_ok ns (if k < n then k else n)
    have e : minOf n (k :: ns) = minOf (if k < n then k else n) ns := rfl
    rw [e]
    refine ⟨?_, fun y hy => ?_⟩
    · rcases List.mem_cons.mp h1 with q | q
      · rw [q]; split <;> simp
      · simp [q]
    · have h0 := h2 _ List.mem_cons_self
      rcases List.mem_cons.mp hy with q | hy
      · subst q
        refine Int.le_trans h0 ?_
        split <;> omega
      rcases List.mem_cons.mp hy with q | hy
      · subst q
        refine Int.le_trans h0 ?_
        split <;> omega
      · exact h2 y (List.mem_cons_of_mem _ hy)
def dMaxL : D → Option D
  | .list ds => match intsOf ds with
    | some (n :: ns) => some (.int (maxOf n ns))
    | _ => none
  | _ => none
def dMinL : D → Option D
  | .list ds => match intsOf ds with
    | some (n :: ns) => some (.int (minOf n ns))
    | _ => none
  | _ => none
theorem s_maxL {K : PySem.W.Frag} {w : World} : ∀ (G : Addr → Prop) (x d : D) (u : V) (H : Hp) (Q : VK), dMaxL x = some d → RepT K w G H u x → (∀ z, (∀ G' H', Rep K w G' H' z d) → Q z H) → rMax K [u] H Q := by
  intro G x d u H Q e r k
  unfold dMaxL at e
  split at e
  · next ds =>
    split at e
    · next n ns e1 =>
      cases e
      obtain ⟨a, us, rfl, ha, ra⟩ := r.lst_inv
      cases intsOf_eq e1
      refine ⟨a, n :: ns, rfl, by rw [← repL_vints ra]; exact SqL.of ha, by simp, fun m hm hy => ?_⟩
      obtain ⟨h1, h2⟩ := maxOf_ok ns n
      rw [Int.le_antisymm (h2 m hm) (hy _ h1)]
      exact k _ fun _ _ => .int _
    · cases e
  · cases e
theorem s_minL {K : PySem.W.Frag} {w : World} : ∀ (G : Addr → Prop) (x d : D) (u : V) (H : Hp) (Q : VK), dMinL x = some d → RepT K w G H u x → (∀ z, (∀ G' H', Rep K w G' H' z d) → Q z H) → rMin K [u] H Q := by
  intro G x d u H Q e r k
  unfold dMinL at e
  split at e
  · next ds =>
    split at e
    · next n ns e1 =>
      cases e
      obtain ⟨a, us, rfl, ha, ra⟩ := r.lst_inv
      cases intsOf_eq e1
      refine ⟨a, n :: ns, rfl, by rw [← repL_vints ra]; exact SqL.of ha, by simp, fun m hm hy => ?_⟩
      obtain ⟨h1, h2⟩ := minOf_ok ns n
      rw [Int.le_antisymm (hy _ h1) (h2 m hm)]
      exact k _ fun _ _ => .int _
    · cases e
  · cases e
/-- str(n) -/
def dStr : D → Option D
  | .int i => if i.natAbs.log2 < 1920 then some (.str (toString i)) else none
  | .str x => some (.str x)
  | _ => none
theorem s_str {K : PySem.W.Frag} {w : World} : ∀ (G : Addr → Prop) (x d : D) (u : V) (H : Hp) (Q : VK), (match x with | .int i => if i.natAbs.log2 < 1920 then some (PyData.str (toString i)) else none | _ => none) = some d → RepT K w G H u x → (∀ z, (∀ G' H', Rep K w G' H' z d) → Q z H) → ∃ i, [u] = [V.int i] ∧ i.natAbs.log2 < 1920 ∧ Q (.str (toString i)) H := by
  intro G x d u H Q e r k
  split at e
  · split at e
    · next h => cases e; cases r.int_inv; exact ⟨_, rfl, h, k _ fun _ _ => .str _⟩
    · cases e
  · cases e

/-! ### two values -/
theorem call2 {r : List V → Hp → VK → Prop} (hp : ∀ t, PA X [a, b] t → PE X e (tCB r t)) (hst : starEach [a, b] X.env = (false, eval a X.env) :: starEach [b] X.env) (hst2 : starEach [b] X.env = (false, eval b X.env) :: starEach [] X.env) :
    ∀ ta tb, PE X a ta → PE X b tb → PE X e (tOp (fun x y H Q => r [x, y] H Q) ta tb) := fun ta tb h h2 => hp _ (pa_cons h (pa_cons h2 pa_nil hst2) hst)
def dMax2 : D → D → Option D
  | .int i, .int j => some (.int (if j > i then j else i))
  | _, _ => none
def dMin2 : D → D → Option D
  | .int i, .int j => some (.int (if j < i then j else i))
  | _, _ => none
theorem s_max2 {K : PySem.W.Frag} {w : World} : ∀ (G G1 : Addr → Prop) (x y d : D) (u v : V) (H : Hp) (Q : VK), dMax2 x y = some d → Rep K w G H u x → Rep K w G1 H v y → (∀ z, (∀ G' H', Rep K w G' H' z d) → Q z H) → ∃ i j, [u, v] = [V.int i, .int j] ∧ Q (.int (if j > i then j else i)) H := by
  intro G G1 x y d u v H Q e r1 r2 k
  unfold dMax2 at e
  split at e
  · cases e; cases r1.int_inv; cases r2.int_inv; exact ⟨_, _, rfl, k _ fun _ _ => .int _⟩
  · cases e
theorem s_min2 {K : PySem.W.Frag} {w : World} : ∀ (G G1 : Addr → Prop) (x y d : D) (u v : V) (H : Hp) (Q : VK), dMin2 x y = some d → Rep K w G H u x → Rep K w G1 H v y → (∀ z, (∀ G' H', Rep K w G' H' z d) → Q z H) → ∃ i j, [u, v] = [V.int i, .int j] ∧ Q (.int (if j < i then j else i)) H := by
  intro G G1 x y d u v H Q e r1 r2 k
  unfold dMin2 at e
  split at e
  · cases e; cases r1.int_inv; cases r2.int_inv; exact ⟨_, _, rfl, k _ fun _ _ => .int _⟩
  · cases e
/-- * of ints; a list times an int -/
def dMulA : D → D → Option (D × Bool)
  | .int i, .int j => if mulOk i j = true then some (.int (i * j), false) else none
  | .list xs, .int k => if k.natAbs ≤ LIM ∧ xs.length * k.toNat ≤ LIM then some (.list (List.replicate k.toNat xs).flatten, true) else none
  | _, _ => none
abbrev rMulA : R2 := fun x y H Q => rI (fun i j => mulOk i j = true) (fun i j => .int (i * j)) x y H Q ∨ rRep x y H Q
theorem op_mulA : OpR X (binaryOp .Mult) rMulA := op_mulG.or op_rep
theorem r2_mul {K : PySem.W.Frag} {w : World} : R2ok K w dMulA rMulA := by
  intro G G1 x y d fr u v H Q e r1 r2 k
  unfold dMulA at e
  split at e
  · split at e
    · next h =>
      cases e; cases r1.int_inv; cases r2.int_inv
      exact .inl ⟨_, _, rfl, rfl, h, k _ H (Same.refl H) ⟨.int _, fun z => nomatch z⟩⟩
    · cases e
  · next xs n =>
    split at e
    · next h =>
      cases e
      obtain ⟨a, us, rfl, ha, ra⟩ := r1.lst_inv
      cases r2.int_inv
      have h1 : n.natAbs ≤ 10000000 := h.1
      refine .inr ⟨a, n, us, rfl, rfl, ha, by omega, by omega, by rw [ra.length]; exact lim_le h.2, fun p hp => ?_⟩
      have s := same_new (o := .lst (List.replicate n.toNat us).flatten) hp
      have t : Top K w (fun b => (G b ∨ G1 b) ∧ H b ≠ none) (upd H p (.lst (List.replicate n.toNat us).flatten)) p (.list (List.replicate n.toNat xs).flatten) := .lst upd_same ((ra.rep n.toNat).keep (.same s fun b g n => ⟨.inl g, n⟩))
      exact k _ _ s ⟨t.rep (.inr (.inr ⟨rfl, hp⟩)) fun b g => g.1.elim .inl fun z => .inr (.inl z), fun _ => ⟨p, rfl, hp, t⟩⟩
    · cases e
  · cases e

/-! ### isinstance with a built-in type -/
inductive PT5 where
  | bool | int | str | tuple | list
def PT5.nm : PT5 → String
  | .bool => "bool" | .int => "int" | .str => "str" | .tuple => "tuple" | .list => "list"
def isT : PT5 → D → Option Bool
  | .bool, .bool _ => some true
  | .int, .bool _ => some true
  | .int, .int _ => some true
  | .str, .str _ => some true
  | .tuple, .tuple _ => some true
  | .list, .list _ => some true
  | _, .dict _ => none
  | _, _ => some false
def dIsT (T : PT5) (d : D) : Option D := (isT T d).map .bool
theorem Rep.tyx {K : PySem.W.Frag} {w : World} {G : Addr → Prop} {H : Hp} {v : V} {d : D} (r : RepT K w G H v d) : match d with
    | .none => TyX K H v (.type "NoneType") | .bool _ => TyX K H v (.type "bool") | .int _ => TyX K H v (.type "int") | .str _ => TyX K H v (.type "str") | .tuple _ => TyX K H v (.type "tuple") | .list _ => TyX K H v (.type "list") | .dict _ => True := by
  cases d with
  | none => cases r.none_inv; exact .base .non
  | bool b =>
    rcases r with r | ⟨_, _, t⟩
    · cases r.bool_inv; exact .base (.bl b)
    · cases t
  | int i => cases r.int_inv; exact .base (.int i)
  | str x => cases r.str_inv; exact .base (.str x)
  | tuple ds =>
    obtain ⟨a, us, rfl, h, _⟩ := r.tup_inv
    rcases h with (h | ⟨o, h⟩) | ⟨o, its, n, h, c, _⟩
    · exact .base (.tup h)
    · exact .fTuple h
    · exact .kTuple h c
  | list ds =>
    obtain ⟨a, us, rfl, h, _⟩ := r.lst_inv
    exact .base (.lst h)
  | dict _ => exact True.intro
theorem s_isT {K : PySem.W.Frag} {w : World} {T : PT5} : ∀ (G : Addr → Prop) (x d : D) (u : V) (H : Hp) (Q : VK), dIsT T x = some d → RepT K w G H u x → (∀ z, (∀ G' H', Rep K w G' H' z d) → Q z H) → rIsi K [u, .ty T.nm] H Q := by
  intro G x d u H Q e r k
  obtain ⟨b, e1, e2⟩ := Option.map_eq_some_iff.mp e
  subst e2
  have t := Rep.tyx r
  have fin : ∀ (n : String), TyX K H u (.type n) → kitB n T.nm = some b → rIsi K [u, .ty T.nm] H Q := fun n ty h => ⟨u, _, _, _, b, rfl, .ty _, ty, kit_ty h, k _ fun _ _ => .bl _⟩
  cases x with
  | none => exact fin _ t (by cases T <;> cases e1 <;> decide +kernel)
  | bool _ => exact fin _ t (by cases T <;> cases e1 <;> decide +kernel)
  | int _ => exact fin _ t (by cases T <;> cases e1 <;> decide +kernel)
  | str _ => exact fin _ t (by cases T <;> cases e1 <;> decide +kernel)
  | tuple _ => exact fin _ t (by cases T <;> cases e1 <;> decide +kernel)
  | list _ => exact fin _ t (by cases T <;> cases e1 <;> decide +kernel)
  | dict _ => cases T <;> cases e1
theorem se_isT {T : PT5} {te : Expr} (hp : ∀ t, PA X [a, te] t → PE X e (tCB (rIsi X.K) t)) (hst : starEach [a, te] X.env = (false, eval a X.env) :: starEach [te] X.env) (hst2 : starEach [te] X.env = (false, eval te X.env) :: starEach [] X.env) (hT : PE X te (tC (.ty T.nm))) (ha : SE X A0 H0 a xa) :
    SE X A0 H0 e (x1 (sc1 (dIsT T)) [] xa) := se_1s (fun ta h => hp _ (pa_cons h (pa_cons hT pa_nil hst2) hst)) s_isT ha

/-! ### slices -/
def PoOk (ρ : Rho) (x : Option Ex) (o : Option Int) : Prop := match x with
  | none => o = none
  | some x => ∃ i f, x.ev ρ = some (.int i, f) ∧ o = some i
structure SO (X : Cx) (A0 : Addr → Prop) (H0 : Hp) (e : Option Expr) (x : Option Ex) : Prop where
  po : PO X e (fun σ H Q => ∃ oa ρ o, EnvOk X.K X.w A0 H0 oa H σ ρ ∧ PoOk ρ x o ∧ ∀ H', Same H H' → Q o H')
theorem poI {X : Cx} {e : Option Expr} {t t' : TO} (h : PO X e t) (i : ∀ σ H Q, t' σ H Q → t σ H Q) : PO X e t' := ⟨fun pins s σ H Q I q => h.run pins s σ H Q I (i σ H Q q)⟩
theorem so_none : SO X A0 H0 none none := ⟨poI po_none fun σ H Q ⟨oa, ρ, o, E, ev, k⟩ => by
  have ev : o = none := ev
  subst ev
  exact k H (Same.refl H)⟩
theorem so_some (ha : SE X A0 H0 a xa) : SO X A0 H0 (some a) (some xa) := ⟨poI (po_some ha.pe) fun σ H Q ⟨oa, ρ, o, E, ev, k⟩ => by
  obtain ⟨i, f, e1, rfl⟩ := ev
  exact ⟨oa, ρ, _, f, E, e1, fun v H1 s1 r1 => ⟨i, r1.rep.int_inv, k H1 s1⟩⟩⟩
def cutD {α : Type} (xs : List α) (lo hi : Option Int) : List α := (xs.drop (HT.sIx xs.length 0 lo)).take (HT.sIx xs.length xs.length hi - HT.sIx xs.length 0 lo)
def dSl (x : D) (lo hi : Option Int) : Option (D × Bool) := match x with
  | .list xs => some (.list (cutD xs lo hi), true)
  | .tuple xs => some (.tuple (cutD xs lo hi), false)
  | .str z => if z.length ≤ LIM then some (.str ⟨(cutD z.cps.toList lo hi).toArray⟩, false) else none
  | _ => none
def evO (ρ : Rho) : Option Ex → Option (Option Int)
  | none => some none
  | some x => (x.ev ρ).bind fun d => match d.1 with
    | .int i => some (some i)
    | _ => none
def xSl (a : Ex) (lo hi : Option Ex) : Ex := ⟨fun ρ => (a.ev ρ).bind fun x => (evO ρ lo).bind fun l => (evO ρ hi).bind fun h => dSl x.1 l h, a.il, a.il⟩
theorem evO_ok {ρ : Rho} {x : Option Ex} {o : Option Int} (h : evO ρ x = some o) : PoOk ρ x o := by
  cases x with
  | none => cases h; rfl
  | some x =>
    obtain ⟨⟨d, f⟩, e1, e2⟩ := Option.bind_eq_some_iff.mp h
    dsimp only at e2
    split at e2
    · cases e2; exact ⟨_, f, e1, rfl⟩
    · cases e2
theorem sIx_le' (n : Nat) (o : Option Int) : HT.sIx n 0 o ≤ n := HT.sIx_le n 0 (Nat.zero_le n) o
theorem cut_str (z : Str) (lo hi : Option Int) : cutS z lo hi = ⟨(cutD z.cps.toList lo hi).toArray⟩ := by
  have e : z.length = z.cps.toList.length := by simp [Str.length]
  unfold cutS cutD
  rw [e]
theorem se_sl {lo hi : Option Expr} {xl xh : Option Ex} {p2 : Pos} (ha : SE X A0 H0 a xa) (hl : SO X A0 H0 lo xl) (hh : SO X A0 H0 hi xh) : SE X A0 H0 (.Subscript a (.Slice lo hi none p2) pos) (xSl xa xl xh) := by
  refine ⟨peI (pe_slice (sl_list.or (sl_tupA.or C8.sl_txt)) ha.pe hl.po hh.po) fun σ H Q ⟨oa, ρ, d, fr, E, ev, k⟩ => ?_⟩
  obtain ⟨⟨x, fx⟩, ex, ev⟩ := Option.bind_eq_some_iff.mp ev
  obtain ⟨l, el, ev⟩ := Option.bind_eq_some_iff.mp ev
  obtain ⟨h, eh, ev⟩ := Option.bind_eq_some_iff.mp ev
  refine ⟨oa, ρ, x, fx, E, ex, fun u H1 s1 r1 => ⟨oa, ρ, l, E.ext s1, evO_ok el, fun H2 s2 => ⟨oa, ρ, h, E.ext (s1.trans s2), evO_ok eh, fun H3 s3 => ?_⟩⟩⟩
  have s13 := s1.trans (s2.trans s3)
  have tt := r1.top.keep (s2.trans s3) fun _ g _ => g
  cases x with
  | list xs =>
    cases (Option.some.inj ev : (PyData.list (cutD xs l h), true) = (d, fr))
    obtain ⟨p, us, rfl, hp, ra⟩ := tt.lst_inv
    refine .inl ⟨p, us, rfl, SqL.of hp, fun q hq => ?_⟩
    have rc : RepL X.K X.w (Gd A0 H0 oa xa.il) H3 (cutV us l h) (cutD xs l h) := by
      unfold cutV cutD
      rw [← ra.length]
      exact (ra.drop _).take _
    exact k _ _ (s13.trans (same_new hq)) (gd_top (E.ext s13) s13 hq rc)
  | tuple xs =>
    cases (Option.some.inj ev : (PyData.tuple (cutD xs l h), false) = (d, fr))
    obtain ⟨p, us, rfl, hp, ra⟩ := tt.tup_inv
    have rc : RepL X.K X.w (Gd A0 H0 oa xa.il) H3 (cutV us l h) (cutD xs l h) := by
      unfold cutV cutD
      rw [← ra.length]
      exact (ra.drop _).take _
    refine .inr (.inl ⟨p, us, rfl, hp, fun z => ?_, fun z q hq => ?_⟩)
    · have ez : cutD xs l h = xs := by
        unfold cutD
        rw [← ra.length, z.1, z.2, ra.length]
        simp
      rw [ez] at k
      exact k _ H3 s13 (.of (.tup hp ra))
    · have s := same_new (o := .tup (cutV us l h)) hq
      exact k _ _ (s13.trans s) (.of (.tup (SqT.of upd_same) (rc.same s)))
  | str z =>
    unfold dSl at ev
    dsimp only at ev
    split at ev
    · next hz =>
      cases ev
      refine .inr (.inr ⟨z, tt.str_inv, lim_le hz, ?_⟩)
      rw [← C8.cutS_slice, cut_str]
      exact k _ H3 s13 (.sc fun _ _ => .str _)
    · cases ev
  | _ => cases ev
end
end Wd
set_option maxRecDepth 100000
set_option maxHeartbeats 2000000
/-! List comprehensions. -/
namespace Wd
open PySem PySem.Spec L2

def wipeR (ρ : Rho) : List Nat → Rho
  | [] => ρ
  | v :: vs => (wipeR ρ vs).set v .un
/-- the items of [el for tg in .. if tt] -/
def lcR (tg : D → Rho → Option Rho) (tt : Rho → Option Bool) (el : Rho → Option (D × Bool)) (ρ0 : Rho) : List D → Option (List D)
  | [] => some []
  | d :: ds => (tg d ρ0).bind fun ρ1 => (tt ρ1).bind fun b => if b = true then (el ρ1).bind fun y => (lcR tg tt el ρ0 ds).bind fun r => some (y.1 :: r) else lcR tg tt el ρ0 ds
def ttR : Option Ex → Rho → Option Bool
  | none, _ => some true
  | some c, ρ => (c.ev ρ).bind fun x => match x.1 with
    | .bool b => some b
    | _ => none
def xLc (vs : List Nat) (tg : D → Rho → Option Rho) (c : Option Ex) (s : Src) (x : Ex) : Ex := ⟨fun ρ => (s.ev ρ).bind fun q => if q.1.length < LIM then (lcR tg (ttR c) x.ev (wipeR q.2 vs) q.1).bind fun r => some (.list r, true) else none, s.lk ++ vs ++ x.lk, s.lk ++ vs ++ x.lk⟩
section
variable {K : PySem.W.Frag} {w : World} {A0 : Addr → Prop} {H0 H H1 H' : Hp} {oa oa' : Ow} {σ : L2.St} {ρ : Rho}
/-- a slot forgotten -/
theorem EnvOk.clear (E : EnvOk K w A0 H0 oa H σ ρ) (i : Nat) : EnvOk K w A0 H0 (oaDel oa i) H (σ.set i none) (ρ.set i .un) := by
  have gg : ∀ b, Gd A0 H0 oa [] b → Gd A0 H0 (oaDel oa i) [] b := fun b g => gd_del0 g
  refine ⟨by rw [List.length_set, List.length_set]; exact E.len, E.same, E.new, fun j a e => E.ownA j a (oaDel_some e).2, fun j a e => ?_, fun j k a e1 e2 => E.inj j k a (oaDel_some e1).2 (oaDel_some e2).2, fun j d' e => ?_, fun j d' e => ?_⟩
  · obtain ⟨n, e⟩ := oaDel_some e
    obtain ⟨h0, d, e1, e2, t⟩ := E.own j a e
    exact ⟨h0, d, by rw [List.getElem?_set_ne (Ne.symm n)]; exact e1, by rw [List.getElem?_set_ne (Ne.symm n)]; exact e2, t.keep (.refl fun b g _ => gg b g) fun o z => z⟩
  · by_cases hj : i = j
    · subst hj
      rw [List.getElem?_set] at e
      simp only [if_true] at e
      split at e <;> cases e
    · rw [List.getElem?_set_ne hj] at e
      obtain ⟨a, ea⟩ := E.has j d' e
      exact ⟨a, by unfold oaDel; rw [if_neg (Ne.symm hj)]; exact ea⟩
  · by_cases hj : i = j
    · subst hj
      rw [List.getElem?_set] at e
      simp only [if_true] at e
      split at e <;> cases e
    · rw [List.getElem?_set_ne hj] at e
      obtain ⟨u, e1, r1⟩ := E.val j d' e
      exact ⟨u, by rw [List.getElem?_set_ne hj]; exact e1, r1.keep (.refl fun b g _ => gg b g)⟩
theorem EnvOk.wipe (E : EnvOk K w A0 H0 oa H σ ρ) : ∀ vs : List Nat, ∃ oa', EnvOk K w A0 H0 oa' H (L2.wipe σ vs) (wipeR ρ vs) ∧ (∀ i b, oa' i = some b → oa i = some b) ∧ ∀ i b, oa i = some b → oa' i = some b ∨ i ∈ vs
  | [] => ⟨oa, E, fun _ _ e => e, fun _ _ e => .inl e⟩
  | v :: vs => by
    obtain ⟨oa', E', z, m⟩ := E.wipe vs
    refine ⟨oaDel oa' v, E'.clear v, fun i b e => z i b (oaDel_some e).2, fun i b e => ?_⟩
    by_cases hi : i = v
    · exact .inr (by rw [hi]; exact List.mem_cons_self)
    · exact (m i b e).elim (fun q => .inl (by unfold oaDel; rw [if_neg hi]; exact q)) fun q => .inr (List.mem_cons_of_mem _ q)
/-- the list that is made lies apart -/
theorem EnvOk.apart (E : EnvOk K w A0 H0 oa H1 σ ρ) {D : Addr} (hD : H1 D = none) (s : Same H1 H) (hd : H D ≠ none) : EnvOk K w (fun b => A0 b ∧ b ≠ D) H0 oa H σ ρ := by
  have gg : ∀ b, Gd A0 H0 oa [] b → H1 b ≠ none → Gd (fun b => A0 b ∧ b ≠ D) H0 oa [] b := fun b g n => ⟨⟨g.1, fun z => n (by rw [z]; exact hD)⟩, g.2⟩
  refine ⟨E.len, E.same.trans s, fun b n => ⟨E.new b (s.free n), fun z => hd (by rw [← z]; exact n)⟩, fun i a e => ⟨E.ownA i a e, E.ne_new e hD⟩, fun i a e => ?_, E.inj, E.has, fun i d e => ?_⟩
  · obtain ⟨h0, d, e1, e2, t⟩ := E.own i a e
    exact ⟨h0, d, e1, e2, t.keep (.same s gg) fun o z => s _ _ z⟩
  · obtain ⟨v, e1, r⟩ := E.val i d e
    exact ⟨v, e1, r.keep (.same s gg)⟩
/-- .. and changes -/
theorem EnvOk.other (E : EnvOk K w (fun b => A0 b ∧ b ≠ D₁) H0 oa H σ ρ) {xs : List V} {ys : List V} (hD : H D₁ = some (.lst xs)) (h0 : H0 D₁ = none) : EnvOk K w (fun b => A0 b ∧ b ≠ D₁) H0 oa (upd H D₁ (.lst ys)) σ ρ := by
  have kp : Kp K (Gd (fun b => A0 b ∧ b ≠ D₁) H0 oa []) (Gd (fun b => A0 b ∧ b ≠ D₁) H0 oa []) H (upd H D₁ (.lst ys)) := ⟨fun b zs h => by rw [upd_ne (ne_of h hD fun z => nomatch z)]; exact h, fun b o u h => by rw [upd_ne (ne_of h hD fun z => nomatch z)]; exact h, fun b o g h => by rw [upd_ne g.1.2]; exact h, fun b g _ => g⟩
  refine ⟨E.len, fun b o h => ?_, fun b n => E.new b ?_, E.ownA, fun i a e => ?_, E.inj, E.has, fun i d e => ?_⟩
  · rw [upd_ne fun z => by subst z; rw [h0] at h; cases h]
    exact E.same _ _ h
  · by_cases z : b = D₁
    · subst z; rw [upd_same] at n; cases n
    · rw [upd_ne z] at n; exact n
  · obtain ⟨h0, d, e1, e2, t⟩ := E.own i a e
    exact ⟨h0, d, e1, e2, t.keep kp fun o z => by rw [upd_ne (E.ownA i a e).2]; exact z⟩
  · obtain ⟨v, e1, r⟩ := E.val i d e
    exact ⟨v, e1, r.keep kp⟩
theorem kp_apart {D : Addr} {G : Addr → Prop} (s : Same H1 H) (hD : H1 D = none) : Kp K G (fun b => G b ∧ b ≠ D) H1 H := .same s fun b g n => ⟨g, fun z => n (by rw [z]; exact hD)⟩
theorem wipe_of {σ σ' : L2.St} (hl : σ'.length = σ.length) : ∀ {vs : List Nat}, (∀ j, j ∉ vs → σ'[j]? = σ[j]?) → L2.wipe σ' vs = L2.wipe σ vs := fun {vs} h => by
  refine List.ext_getElem? fun j => ?_
  by_cases hj : j ∈ vs
  · have z : ∀ (τ : L2.St) (us : List Nat), j ∈ us → j < τ.length → (L2.wipe τ us)[j]? = some none := fun τ us => by
      induction us with
      | nil => intro m; cases m
      | cons v us ih =>
        intro m l
        unfold L2.wipe
        by_cases e : v = j
        · subst e
          rw [List.getElem?_set_self (by rw [wipe_length]; exact l)]
        · rw [List.getElem?_set_ne e]
          exact ih ((List.mem_cons.mp m).elim (fun q => absurd q.symm e) id) l
    by_cases l : j < σ.length
    · rw [z σ vs hj l, z σ' vs hj (by omega)]
    · rw [List.getElem?_eq_none (by rw [wipe_length]; omega), List.getElem?_eq_none (by rw [wipe_length]; omega)]
  · rw [L2.wipe_out hj, L2.wipe_out hj]
    exact h j hj
end
/-- a test of a comprehension -/
structure SPT (X : Cx) (A0 : Addr → Prop) (H0 : Hp) (ifs : List Expr) (c : Option Ex) : Prop where
  pts : PTs X ifs (fun σ H Q => ∃ oa ρ b, EnvOk X.K X.w A0 H0 oa H σ ρ ∧ ttR c ρ = some b ∧ ∀ H', Same H H' → Q b H')
theorem ptsI {X : Cx} {e : List Expr} {t t' : TT} (h : PTs X e t) (i : ∀ σ H Q, t' σ H Q → t σ H Q) : PTs X e t' := ⟨fun pins s σ H Q I q => h.run pins s σ H Q I (i σ H Q q)⟩
section
variable {X : Cx} {A0 : Addr → Prop} {H0 : Hp} {pos : Pos} {e a b c t iter elt : Expr} {xa xb xc x : Ex} {ifs : List Expr} {xt : Option Ex} {s : Src} {g : TG} {tg : D → Rho → Option Rho} {vs ts : List Nat}
theorem spt_nil : SPT X A0 H0 [] none := ⟨ptsI pts_nil fun σ H Q ⟨oa, ρ, b, E, ev, k⟩ => by
  cases ev
  exact k H (Same.refl H)⟩
theorem spt_one (hc : SB X A0 H0 c xc) : SPT X A0 H0 [c] (some xc) := ⟨ptsI (pts_one hc.pt) fun σ H Q ⟨oa, ρ, b, E, ev, k⟩ => by
  obtain ⟨⟨d, f⟩, e1, e2⟩ := Option.bind_eq_some_iff.mp ev
  dsimp only at e2
  split at e2
  · cases e2; exact ⟨oa, ρ, _, f, E, e1, k⟩
  · cases e2⟩
def ttE (K : PySem.W.Frag) (w : World) (H0 : Hp) (xt : Option Ex) : TT := fun σ H Q => ∃ A0 oa ρ b, EnvOk K w A0 H0 oa H σ ρ ∧ ttR xt ρ = some b ∧ ∀ H', Same H H' → Q b H'
def teE (K : PySem.W.Frag) (w : World) (H0 : Hp) (x : Ex) : TE := fun σ H Q => ∃ A0, tX K w A0 H0 x σ H Q
theorem lc_sem {K : PySem.W.Frag} {w : World} {σ : L2.St} {H : Hp} {Q : VK} (hg : ∀ A0, SGok K w A0 H0 g tg ts) (hts : ∀ j ∈ ts, j ∈ vs) (h : tX K w A0 H0 (xLc vs tg xt s x) σ H Q) : tLc (tSrc K w A0 H0 s) g (ttE K w H0 xt) (teE K w H0 x) vs σ H Q := by
  obtain ⟨oa, ρ, d, fr, E, ev, k⟩ := h
  obtain ⟨⟨ds, ρ'⟩, e1, ev⟩ := Option.bind_eq_some_iff.mp ev
  dsimp only at ev
  split at ev
  · next hlen =>
    obtain ⟨r, e2, ev⟩ := Option.bind_eq_some_iff.mp ev
    cases ev
    refine ⟨oa, ρ, ds, ρ', E, e1, fun J H1 oa1 s1 E1 z1 m1 hwk D₁ hD => ?_⟩
    obtain ⟨G, Y, hW, hG, hY⟩ := hwk.ex
    obtain ⟨oa2, E2, z2, m2⟩ := E1.wipe vs
    have hD0 : H0 D₁ = none := E1.same.free hD
    have sD := same_new (o := .lst []) hD
    -- what holds between two turns
    let Pv : Nat → Hp → Prop := fun i H' => ∃ us ys r', H' D₁ = some (.lst us) ∧ us.length ≤ i ∧ RepL K w (Gd (fun b => A0 b ∧ b ≠ D₁) H0 oa2 (ts ++ x.lk)) H' us ys ∧ lcR tg (ttR xt) x.ev (wipeR ρ' vs) (ds.drop i) = some r' ∧ r = ys ++ r' ∧
      EnvOk K w (fun b => A0 b ∧ b ≠ D₁) H0 oa2 H' (L2.wipe σ vs) (wipeR ρ' vs) ∧ (∀ b o, H1 b = some o → H' b = some o)
    have hGk : ∀ i H', Pv i H' → Kp K (Gd A0 H0 oa1 []) (Gd (fun b => A0 b ∧ b ≠ D₁) H0 oa1 []) H1 H' := fun i H' ⟨us, ys, r', hu, _, _, _, _, E', sH⟩ => .same sH fun b g n => ⟨⟨g.1, fun z => n (by rw [z]; exact hD)⟩, g.2⟩
    refine lc_it (g := g) (tt := ttE K w H0 xt) (te := teE K w H0 x) (vs := vs) (σ := σ) (Qd := fun H => Q (.ref D₁) H) hW Pv ⟨[], [], r, upd_same, Nat.le_refl _, .nil, e2, rfl, E2.apart hD sD (by rw [upd_same]; exact fun z => nomatch z), fun b o h => sD _ _ h⟩ (fun i H' _ p => hG _ H' (hGk i H' p)) (fun i v H' H'' hi p y => ?_) (fun H' p => ?_)
    · have hk := hGk i H' p
      obtain ⟨us, ys, r', hu, hul, ru, el, er, E', sH⟩ := p
      have ed : ds[i]? = some ds[i] := List.getElem?_eq_getElem hi
      have gnew : ∀ b, H' b = none → Gd (fun b => A0 b ∧ b ≠ D₁) H0 oa1 [] b := fun b n => by
        have hb : H1 b = none := by
          cases q : H1 b with
          | none => rfl
          | some o => rw [sH b o q] at n; cases n
        refine ⟨⟨E1.new b hb, fun z => by rw [z, hu] at n; cases n⟩, fun j e => ?_⟩
        exact absurd hb (fun q => by
          obtain ⟨_, _, _, _, t⟩ := E1.own j b e
          obtain ⟨o, ho, _⟩ := t.there
          rw [q] at ho; cases ho)
      obtain ⟨s2, r2⟩ := hY _ H' i ds[i] v H'' hk gnew ed y
      have r2' : Rep K w (Gd (fun b => A0 b ∧ b ≠ D₁) H0 oa2 []) H'' v ds[i] := r2.keep (.refl fun b g _ => ⟨g.1, fun j e => g.2 j (z2 j b e)⟩)
      rw [List.drop_eq_getElem_cons hi] at el
      unfold lcR at el
      obtain ⟨ρ1, q1, el⟩ := Option.bind_eq_some_iff.mp el
      obtain ⟨bb, q2, el⟩ := Option.bind_eq_some_iff.mp el
      have E'' := E'.ext s2
      refine hg (fun b => A0 b ∧ b ≠ D₁) oa2 _ ρ1 (L2.wipe σ vs) H'' v ds[i] _ E'' r2' q1 fun oa3 σ3 E3 z3 w3 => ⟨?_, fun b => A0 b ∧ b ≠ D₁, oa3, ρ1, bb, E3, q2, fun H3 s3 => ?_⟩
      · have z := wipe_of (vs := vs) w3.1 fun j n => w3.2.1 j fun m => n (hts j m)
        rw [z]
        exact wipe_of (wipe_length σ vs) fun j n => L2.wipe_out n
      cases bb with
      | false =>
        refine iteF ⟨us, ys, r', ?_, by omega, ru.same (s2.trans s3), el, er, E''.ext s3, fun b o h => s3 _ _ (s2 _ _ (sH b o h))⟩
        exact s3 _ _ (s2 _ _ hu)
      | true =>
        rw [if_pos rfl] at el
        obtain ⟨⟨yd, fy⟩, q3, el⟩ := Option.bind_eq_some_iff.mp el
        obtain ⟨r2, q4, el⟩ := Option.bind_eq_some_iff.mp el
        cases el
        refine iteT ⟨_, oa3, ρ1, yd, fy, E3.ext s3, q3, fun yv H4 s4 ry => ⟨us, s4 _ _ (s3 _ _ (s2 _ _ hu)), ?_, ?_⟩⟩
        · exact lim_lt (by omega)
        have s24 := s2.trans (s3.trans s4)
        have hD4 : H4 D₁ = some (.lst us) := s24 _ _ hu
        have kp : Kp K (Gd (fun b => A0 b ∧ b ≠ D₁) H0 oa2 (ts ++ x.lk)) (Gd (fun b => A0 b ∧ b ≠ D₁) H0 oa2 (ts ++ x.lk)) H4 (upd H4 D₁ (.lst (us ++ [yv]))) := ⟨fun b zs h => by rw [upd_ne (ne_of h hD4 fun z => nomatch z)]; exact h, fun b o u h => by rw [upd_ne (ne_of h hD4 fun z => nomatch z)]; exact h, fun b o g h => by rw [upd_ne g.1.2]; exact h, fun b g _ => g⟩
        refine ⟨us ++ [yv], ys ++ [yd], r2, upd_same, ?_, ?_, q4, by rw [er, List.append_assoc]; rfl, (E''.ext (s3.trans s4)).other hD4 hD0, fun b o h => ?_⟩
        · rw [List.length_append, List.length_singleton]
          omega
        · refine ((ru.same s24).append (.one (ry.rep.keep (.refl fun b g _ => ⟨g.1, fun j e => (w3.2.2 j b e).elim (fun q => List.mem_append_right _ (g.2 j q)) fun q => List.mem_append_left _ q⟩)))).keep kp
        · rw [upd_ne fun z => by subst z; rw [hD] at h; cases h]
          exact s24 _ _ (sH b o h)
    · obtain ⟨us, ys, r', hu, hul, ru, el, er, E', sH⟩ := p
      rw [List.drop_length] at el
      cases el
      rw [List.append_nil] at er
      subst er
      have gg : ∀ b, Gd (fun b => A0 b ∧ b ≠ D₁) H0 oa2 (ts ++ x.lk) b → Gd A0 H0 oa (s.lk ++ vs ++ x.lk) b := fun b g => ⟨g.1.1, fun j e => by
        rcases m1 j b e with q | q
        · rcases m2 j b q with q | q
          · rcases List.mem_append.mp (g.2 j q) with q | q
            · exact List.mem_append_left _ (List.mem_append_right _ (hts j q))
            · exact List.mem_append_right _ q
          · exact List.mem_append_left _ (List.mem_append_right _ q)
        · exact List.mem_append_left _ (List.mem_append_left _ q)⟩
      have tp : Top K w (fun b => Gd A0 H0 oa (s.lk ++ vs ++ x.lk) b ∧ b ≠ D₁) H' D₁ (.list r) := .lst hu (ru.keep (.refl fun b g _ => ⟨gg b g, g.1.2⟩))
      have gD : Gd A0 H0 oa (s.lk ++ vs ++ x.lk) D₁ := gd_new E (s1.free hD)
      have rr : Rep K w (Gd A0 H0 oa (s.lk ++ vs ++ x.lk)) H' (.ref D₁) (.list r) := tp.rep gD fun b g => g.1
      exact k _ H' (s1.trans sH) ⟨rr, .inl rr, fun _ => ⟨D₁, rfl, s1.free hD, tp⟩⟩
  · cases ev

theorem ptt {ifs : List Expr} {xt : Option Ex} (h : ∀ A0, SPT X A0 H0 ifs xt) : PTs X ifs (ttE X.K X.w H0 xt) := ⟨fun pins s1 σ H1 Q I ⟨A1, q⟩ => (h A1).pts.run pins s1 σ H1 Q I q⟩
theorem pte {elt : Expr} {x : Ex} (h : ∀ A0, SE X A0 H0 elt x) : PE X elt (teE X.K X.w H0 x) := ⟨fun pins s1 σ H1 Q I ⟨A1, q⟩ => (h A1).pe.run pins s1 σ H1 Q I q⟩
variable {scope : Scope} {own : List (Str × Nat)}
theorem se_lc (own : List (Str × Nat)) (hc : X.calm = true) (hN : X.N.Nodup) (ok : BlkOk X.N X.env.scope scope own) (hi : SI X A0 H0 t iter s) (hg : ∀ (s : Shared) (H : Hp) (C : Addr) (cl : List (Str × Addr)) (fp : List Addr), PG (X.blk s H scope (PySem.compEnvC scope cl C X.env) fp) t g) (hgo : ∀ A0, SGok X.K X.w A0 H0 g tg ts)
    (ht : ∀ (s : Shared) (H : Hp) (C : Addr) (cl : List (Str × Addr)) (fp : List Addr) A0, SPT (X.blk s H scope (PySem.compEnvC scope cl C X.env) fp) A0 H0 ifs xt) (he : ∀ (s : Shared) (H : Hp) (C : Addr) (cl : List (Str × Addr)) (fp : List Addr) A0, SE (X.blk s H scope (PySem.compEnvC scope cl C X.env) fp) A0 H0 elt x)
    (hts : ∀ j ∈ ts, j ∈ own.map (·.2) := by decide) (hs : ∀ x, foldedSetIterable iter X.env x = pure x := by intro _; rfl) : SE X A0 H0 (.ListComp elt [⟨t, iter, ifs, 0⟩] scope pos) (xLc (own.map (·.2)) tg xt s x) :=
  ⟨peI (pe_lc (own := own) (g := g) (tt := ttE X.K X.w H0 xt) (te := teE X.K X.w H0 x) hc hN hi.pi ok hg (fun s H C cl fp => ptt (ht s H C cl fp)) (fun s H C cl fp => pte (he s H C cl fp)) hs) fun σ H Q h => lc_sem hgo hts h⟩
theorem ss_asgLc {i : Nat} {y : Str} {py spos : Pos} (own : List (Str × Nat)) (hc : X.calm = true) (hN : X.N.Nodup) (ok : BlkOk X.N X.env.scope scope own) (hy : X.N[i]? = some y) (hyl : X.env.scope.names.lookup y = some .local) (hsw : swapsWith (.ListComp elt [⟨t, iter, ifs, 0⟩] scope pos) (some (.Name y py)) spos.line X.env = pure true)
    (hi : SI X A0 H0 t iter s) (hg : ∀ (s : Shared) (H : Hp) (C : Addr) (cl : List (Str × Addr)) (fp : List Addr), PG (X.blk s H scope (PySem.compEnvC scope cl C X.env) fp) t g) (hgo : ∀ A0, SGok X.K X.w A0 H0 g tg ts)
    (ht : ∀ (s : Shared) (H : Hp) (C : Addr) (cl : List (Str × Addr)) (fp : List Addr) A0, SPT (X.blk s H scope (PySem.compEnvC scope cl C X.env) fp) A0 H0 ifs xt) (he : ∀ (s : Shared) (H : Hp) (C : Addr) (cl : List (Str × Addr)) (fp : List Addr) A0, SE (X.blk s H scope (PySem.compEnvC scope cl C X.env) fp) A0 H0 elt x)
    (hts : ∀ j ∈ ts, j ∈ own.map (·.2) := by decide) (hs : ∀ x, foldedSetIterable iter X.env x = pure x := by intro _; rfl) : SS X A0 H0 (.Assign [.Name y py] (.ListComp elt [⟨t, iter, ifs, 0⟩] scope pos) spos) (sAsg i (xLc (own.map (·.2)) tg xt s x)) := by
  refine ⟨psI (ps_setLc (own := own) (g := g) (tt := ttE X.K X.w H0 xt) (te := teE X.K X.w H0 x) hc hN hy hyl hsw hi.pi ok hg (fun s H C cl fp => ptt (ht s H C cl fp)) (fun s H C cl fp => pte (he s H C cl fp)) hs) fun E σ H h => ?_⟩
  exact lc_sem (Q := fun v H1 => gName i v σ H1 E.nx) hgo hts (asg_ok h)
end
end Wd
set_option maxRecDepth 100000
set_option maxHeartbeats 2000000
/-! Short forms for the printed derivations; the law's end. -/
namespace Wd
open PySem PySem.Spec L2

@[simp] def xAdd (a b : Ex) : Ex := x2 dAdd (a.il ++ b.il) a b
@[simp] def xSub (a b : Ex) : Ex := x2 (sc dSub) [] a b
@[simp] def xMul (a b : Ex) : Ex := x2 dMulA (a.il ++ b.il) a b
@[simp] def xDiv (a b : Ex) : Ex := x2 (sc dDiv) [] a b
@[simp] def xMod (a b : Ex) : Ex := x2 (sc dMod) [] a b
@[simp] def xPow (a b : Ex) : Ex := x2 (sc dPow) [] a b
@[simp] def xLt (a b : Ex) : Ex := x2 (sc dLt) [] a b
@[simp] def xLe (a b : Ex) : Ex := x2 (sc dLe) [] a b
@[simp] def xGt (a b : Ex) : Ex := x2 (sc dGt) [] a b
@[simp] def xGe (a b : Ex) : Ex := x2 (sc dGe) [] a b
@[simp] def xEq (a b : Ex) : Ex := x2 (sc dEq) [] a b
@[simp] def xNe (a b : Ex) : Ex := x2 (sc dNe) [] a b
@[simp] def xIs (a b : Ex) : Ex := x2 (sc dIs) [] a b
@[simp] def xIsNot (a b : Ex) : Ex := x2 (sc dIsNot) [] a b
@[simp] def xNeg (a : Ex) : Ex := x1 (sc1 dNeg) [] a
@[simp] def xAbs (a : Ex) : Ex := x1 (sc1 dAbs) [] a
@[simp] def xSum (a : Ex) : Ex := x1 (sc1 dSum) [] a
@[simp] def xMaxL (a : Ex) : Ex := x1 (sc1 dMaxL) [] a
@[simp] def xMinL (a : Ex) : Ex := x1 (sc1 dMinL) [] a
@[simp] def xTuple (a : Ex) : Ex := x1 dTuple a.il a
@[simp] def xList (a : Ex) : Ex := x1 dList a.il a
@[simp] def xMax2 (a b : Ex) : Ex := x2 (sc dMax2) [] a b
@[simp] def xMin2 (a b : Ex) : Ex := x2 (sc dMin2) [] a b
@[simp] def xIsT (T : PT5) (a : Ex) : Ex := x1 (sc1 (dIsT T)) [] a
def dStrI : D → Option D
  | .int i => if i.natAbs.log2 < 1920 then some (.str (toString i)) else none
  | _ => none
@[simp] def xStrI (a : Ex) : Ex := x1 (sc1 dStrI) [] a
theorem s_I {K : PySem.W.Frag} {w : World} {C : Int → Int → Bool} {C' : Int → Int → Prop} {g : Int → Int → Int} (hC : ∀ i j, C i j = true → C' i j) : ∀ (G G1 : Addr → Prop) (x y d : D) (u v : V) (H : Hp) (Q : VK), dI2 C g x y = some d → Rep K w G H u x → Rep K w G1 H v y → (∀ z, (∀ G' H', Rep K w G' H' z d) → Q z H) → rI C' (fun i j => .int (g i j)) u v H Q := by
  intro G G1 x y d u v H Q e r1 r2 k
  unfold dI2 at e
  split at e
  · split at e
    · next h => cases e; cases r1.int_inv; cases r2.int_inv; exact ⟨_, _, rfl, rfl, hC _ _ h, k _ fun _ _ => .int _⟩
    · cases e
  · cases e
theorem s_I0 {K : PySem.W.Frag} {w : World} {g : Int → Int → Int} : ∀ (G G1 : Addr → Prop) (x y d : D) (u v : V) (H : Hp) (Q : VK), dI2 (fun _ _ => true) g x y = some d → Rep K w G H u x → Rep K w G1 H v y → (∀ z, (∀ G' H', Rep K w G' H' z d) → Q z H) → rI0 (fun i j => .int (g i j)) u v H Q := by
  intro G G1 x y d u v H Q e r1 r2 k
  unfold dI2 at e
  split at e
  · cases e; cases r1.int_inv; cases r2.int_inv; exact ⟨_, _, rfl, rfl, k _ fun _ _ => .int _⟩
  · cases e
section
variable {X : Cx} {A0 : Addr → Prop} {H0 : Hp} {pos : Pos} {a b : Expr} {xa xb : Ex}
theorem se_add (ha : SE X A0 H0 a xa) (hb : SE X A0 H0 b xb) : SE X A0 H0 (.BinOp a .Add b pos) (xAdd xa xb) := se_bin op_addA r2_add ha hb _ fun _ h => h
theorem se_mul (ha : SE X A0 H0 a xa) (hb : SE X A0 H0 b xb) : SE X A0 H0 (.BinOp a .Mult b pos) (xMul xa xb) := se_bin op_mulA r2_mul ha hb _ fun _ h => h
theorem se_sub (ha : SE X A0 H0 a xa) (hb : SE X A0 H0 b xb) : SE X A0 H0 (.BinOp a .Sub b pos) (xSub xa xb) := se_2s ha hb (fun ta tb pa pb => pe_op op_sub pa pb) s_I0
theorem se_div (ha : SE X A0 H0 a xa) (hb : SE X A0 H0 b xb) : SE X A0 H0 (.BinOp a .FloorDiv b pos) (xDiv xa xb) := se_2s ha hb (fun ta tb pa pb => pe_op op_fdivG pa pb) (s_I fun _ _ h => h)
theorem se_mod (ha : SE X A0 H0 a xa) (hb : SE X A0 H0 b xb) : SE X A0 H0 (.BinOp a .Mod b pos) (xMod xa xb) := se_2s ha hb (fun ta tb pa pb => pe_op op_mod pa pb) (s_I fun _ _ h => modOk_ok h)
theorem se_pow (ha : SE X A0 H0 a xa) (hb : SE X A0 H0 b xb) : SE X A0 H0 (.BinOp a .Pow b pos) (xPow xa xb) := se_2s ha hb (fun ta tb pa pb => pe_op op_pow pa pb) (s_I fun _ _ h => powOk_ok h)
theorem se_lt (ha : SE X A0 H0 a xa) (hb : SE X A0 H0 b xb) : SE X A0 H0 (.Compare a [.Lt] [b] pos) (xLt xa xb) := se_cmp op_lt s_B0 ha hb (nomark _)
theorem se_le (ha : SE X A0 H0 a xa) (hb : SE X A0 H0 b xb) : SE X A0 H0 (.Compare a [.LtE] [b] pos) (xLe xa xb) := se_cmp op_le s_B0 ha hb (nomark _)
theorem se_gt (ha : SE X A0 H0 a xa) (hb : SE X A0 H0 b xb) : SE X A0 H0 (.Compare a [.Gt] [b] pos) (xGt xa xb) := se_cmp op_gt s_B0 ha hb (nomark _)
theorem se_ge (ha : SE X A0 H0 a xa) (hb : SE X A0 H0 b xb) : SE X A0 H0 (.Compare a [.GtE] [b] pos) (xGe xa xb) := se_cmp op_ge s_B0 ha hb (nomark _)
theorem sb_lt (ha : SE X A0 H0 a xa) (hb : SE X A0 H0 b xb) : SB X A0 H0 (.Compare a [.Lt] [b] pos) (xLt xa xb) := sb_cmp op_lt s_B0 ha hb (nomark _)
theorem sb_le (ha : SE X A0 H0 a xa) (hb : SE X A0 H0 b xb) : SB X A0 H0 (.Compare a [.LtE] [b] pos) (xLe xa xb) := sb_cmp op_le s_B0 ha hb (nomark _)
theorem sb_gt (ha : SE X A0 H0 a xa) (hb : SE X A0 H0 b xb) : SB X A0 H0 (.Compare a [.Gt] [b] pos) (xGt xa xb) := sb_cmp op_gt s_B0 ha hb (nomark _)
theorem sb_ge (ha : SE X A0 H0 a xa) (hb : SE X A0 H0 b xb) : SB X A0 H0 (.Compare a [.GtE] [b] pos) (xGe xa xb) := sb_cmp op_ge s_B0 ha hb (nomark _)
theorem se_eq (hu : X.A.units + 64 < cLine) (ha : SE X A0 H0 a xa) (hb : SE X A0 H0 b xb) : SE X A0 H0 (.Compare a [.Eq] [b] pos) (xEq xa xb) := se_cmp (op_eq.or (op_eqD hu)) s_eq ha hb (nomark _)
theorem se_ne (hu : X.A.units + 64 < cLine) (ha : SE X A0 H0 a xa) (hb : SE X A0 H0 b xb) : SE X A0 H0 (.Compare a [.NotEq] [b] pos) (xNe xa xb) := se_cmp (op_ne.or (op_neD hu)) s_ne ha hb (nomark _)
theorem sb_eq (hu : X.A.units + 64 < cLine) (ha : SE X A0 H0 a xa) (hb : SE X A0 H0 b xb) : SB X A0 H0 (.Compare a [.Eq] [b] pos) (xEq xa xb) := sb_cmp (op_eq.or (op_eqD hu)) s_eq ha hb (nomark _)
theorem sb_ne (hu : X.A.units + 64 < cLine) (ha : SE X A0 H0 a xa) (hb : SE X A0 H0 b xb) : SB X A0 H0 (.Compare a [.NotEq] [b] pos) (xNe xa xb) := sb_cmp (op_ne.or (op_neD hu)) s_ne ha hb (nomark _)
theorem se_is (ha : SE X A0 H0 a xa) (hb : SE X A0 H0 b xb) : SE X A0 H0 (.Compare a [.Is] [b] pos) (xIs xa xb) := se_cmp op_isN s_is ha hb (nomark _)
theorem se_isnot (ha : SE X A0 H0 a xa) (hb : SE X A0 H0 b xb) : SE X A0 H0 (.Compare a [.IsNot] [b] pos) (xIsNot xa xb) := se_cmp op_notN s_isnot ha hb (nomark _)
theorem sb_is (ha : SE X A0 H0 a xa) (hb : SE X A0 H0 b xb) : SB X A0 H0 (.Compare a [.Is] [b] pos) (xIs xa xb) := sb_cmp op_isN s_is ha hb (nomark _)
theorem sb_isnot (ha : SE X A0 H0 a xa) (hb : SE X A0 H0 b xb) : SB X A0 H0 (.Compare a [.IsNot] [b] pos) (xIsNot xa xb) := sb_cmp op_notN s_isnot ha hb (nomark _)

variable {p : Pos}
theorem se_abs (hg : Gl X "abs") (hm : X.mg "abs" = none) (ha : SE X A0 H0 a xa) (hs : starEach [a] X.env = (false, eval a X.env) :: starEach [] X.env := by rfl) : SE X A0 H0 (.Call (.Name "abs" p) [a] [] pos) (xAbs xa) :=
  se_1s (call1 (fun t pa => pe_callB call_abs hg hm PyProof.Rows.boot_abs pa (he := hs)) hs) s_abs ha
theorem se_tuple (hg : Gl X "tuple") (hm : X.mg "tuple" = none) (ha : SE X A0 H0 a xa) (hs : starEach [a] X.env = (false, eval a X.env) :: starEach [] X.env := by rfl) : SE X A0 H0 (.Call (.Name "tuple" p) [a] [] pos) (xTuple xa) :=
  se_1 (call1 (fun t pa => pe_callTy call_tuple_of hg hm PyProof.Rows.boot_tuple pa (he := hs)) hs) r1_tuple ha
theorem se_list (hg : Gl X "list") (hm : X.mg "list" = none) (ha : SE X A0 H0 a xa) (hs : starEach [a] X.env = (false, eval a X.env) :: starEach [] X.env := by rfl) : SE X A0 H0 (.Call (.Name "list" p) [a] [] pos) (xList xa) :=
  se_1 (call1 (fun t pa => pe_callTy call_list_of hg hm PyProof.Rows.boot_list pa (he := hs)) hs) r1_list ha
theorem se_sum (hc : X.calm = true) (hg : Gl X "sum") (hm : X.mg "sum" = none) (ha : SE X A0 H0 a xa) (hs : starEach [a] X.env = (false, eval a X.env) :: starEach [] X.env := by rfl) : SE X A0 H0 (.Call (.Name "sum" p) [a] [] pos) (xSum xa) :=
  se_1s (call1 (fun t pa => pe_callB (cr_sum hc) hg hm PyProof.Rows.boot_sum pa (he := hs)) hs) s_sum ha
theorem se_maxL (hc : X.calm = true) (hg : Gl X "max") (hm : X.mg "max" = none) (ha : SE X A0 H0 a xa) (hs : starEach [a] X.env = (false, eval a X.env) :: starEach [] X.env := by rfl) : SE X A0 H0 (.Call (.Name "max" p) [a] [] pos) (xMaxL xa) :=
  se_1s (call1 (fun t pa => pe_callB (cr_max hc) hg hm PyProof.Rows.boot_max pa (he := hs)) hs) s_maxL ha
theorem se_minL (hc : X.calm = true) (hg : Gl X "min") (hm : X.mg "min" = none) (ha : SE X A0 H0 a xa) (hs : starEach [a] X.env = (false, eval a X.env) :: starEach [] X.env := by rfl) : SE X A0 H0 (.Call (.Name "min" p) [a] [] pos) (xMinL xa) :=
  se_1s (call1 (fun t pa => pe_callB (cr_min hc) hg hm PyProof.Rows.boot_min pa (he := hs)) hs) s_minL ha
theorem se_max2 (hc : X.calm = true) (hg : Gl X "max") (hm : X.mg "max" = none) (ha : SE X A0 H0 a xa) (hb : SE X A0 H0 b xb) (hs : starEach [a, b] X.env = (false, eval a X.env) :: starEach [b] X.env := by rfl) (hs2 : starEach [b] X.env = (false, eval b X.env) :: starEach [] X.env := by rfl) (hpl : (backTo pos (starEach [b] X.env)).any (·.1) = false := by rfl) : SE X A0 H0 (.Call (.Name "max" p) [a, b] [] pos) (xMax2 xa xb) :=
  se_2s ha hb (call2 (fun t pa => pe_callB (call_max2 hc) hg hm PyProof.Rows.boot_max pa (he := hs) (hpl := hpl)) hs hs2) s_max2
theorem se_min2 (hc : X.calm = true) (hg : Gl X "min") (hm : X.mg "min" = none) (ha : SE X A0 H0 a xa) (hb : SE X A0 H0 b xb) (hs : starEach [a, b] X.env = (false, eval a X.env) :: starEach [b] X.env := by rfl) (hs2 : starEach [b] X.env = (false, eval b X.env) :: starEach [] X.env := by rfl) (hpl : (backTo pos (starEach [b] X.env)).any (·.1) = false := by rfl) : SE X A0 H0 (.Call (.Name "min" p) [a, b] [] pos) (xMin2 xa xb) :=
  se_2s ha hb (call2 (fun t pa => pe_callB (call_min2 hc) hg hm PyProof.Rows.boot_min pa (he := hs) (hpl := hpl)) hs hs2) s_min2
theorem s_strI {K : PySem.W.Frag} {w : World} : ∀ (G : Addr → Prop) (x d : D) (u : V) (H : Hp) (Q : VK), dStrI x = some d → RepT K w G H u x → (∀ z, (∀ G' H', Rep K w G' H' z d) → Q z H) → ∃ i, [u] = [V.int i] ∧ i.natAbs.log2 < 1920 ∧ Q (.str (toString i)) H := by
  intro G x d u H Q e r k
  unfold dStrI at e
  split at e
  · split at e
    · next h => cases e; cases r.int_inv; exact ⟨_, rfl, h, k _ fun _ _ => .str _⟩
    · cases e
  · cases e
theorem se_strI (hg : Gl X "str") (hm : X.mg "str" = none) (ha : SE X A0 H0 a xa) (hs : starEach [a] X.env = (false, eval a X.env) :: starEach [] X.env := by rfl) : SE X A0 H0 (.Call (.Name "str" p) [a] [] pos) (xStrI xa) :=
  se_1s (call1 (fun t pa => pe_callTy call_str_int hg hm PyProof.Rows.boot_str pa (he := hs)) hs) s_strI ha
theorem se_isi {T : PT5} {n : Str} {p2 : Pos} (hg : Gl X "isinstance") (hm : X.mg "isinstance" = none) (hg2 : Gl X n) (hm2 : X.mg n = none) (hv : bootBuiltins n = some (.type T.nm)) (ha : SE X A0 H0 a xa) (hn : n ≠ "__name__" := by decide) (hdb : (n == ("__debug__" : Str)) = false := by decide)
    (hs : starEach [a, .Name n p2] X.env = (false, eval a X.env) :: starEach [.Name n p2] X.env := by rfl) (hs2 : starEach [.Name n p2] X.env = (false, eval (.Name n p2) X.env) :: starEach [] X.env := by rfl) (hpl : (backTo pos (starEach [.Name n p2] X.env)).any (·.1) = false := by rfl) : SE X A0 H0 (.Call (.Name "isinstance" p) [a, .Name n p2] [] pos) (xIsT T xa) :=
  se_isT (fun t pa => pe_callB call_isi hg hm PyProof.Rows.boot_isinstance pa (he := hs) (hpl := hpl)) hs hs2 (pe_bltn (v := .ty T.nm) hg2 hm2 hv rfl hn hdb) ha
end

/-! ### calls of the defs -/
structure Cal (P : Program) (w : World) (K : PySem.W.Frag) (mg : Str → Option Value) (base : Heap) (x : Str) (k : Nat) (ps : List Str) (g : List D → Option (D × Bool)) : Prop where
  ex : ∃ f fd, FnOk P w K mg base CX0 k f fd ps (spOf K w ps.length g) ∧ mg x = some (.ref f) ∧ PySem.W.keepIn K (.ref f) = true ∧ Binds K fd ps []
theorem se_cal {X : Cx} {A0 : Addr → Prop} {H0 : Hp} {p pos : Pos} {e : Expr} {es : List Expr} {xs : List Ex} {x : Str} {k j : Nat} {ps : List Str} {g : List D → Option (D × Bool)} (c : Cal X.prog X.w X.K X.mg X.base x k ps g) (hr : Room j X.A) (hk : k ≤ j) (hg : Gl X x) (ha : SA X A0 H0 (e :: es) xs) (hn : xs.length = ps.length := by rfl)
    (hd : (x == ("__debug__" : Str)) = false := by decide) (he : starEach (e :: es) X.env = (false, eval e X.env) :: starEach es X.env := by rfl) (hpl : (backTo pos (starEach es X.env)).any (·.1) = false := by rfl) : SE X A0 H0 (.Call (.Name x p) (e :: es) [] pos) (xCall g xs) := by
  obtain ⟨f, fd, F, hm, hkp, hb⟩ := c.ex
  exact se_call (fun t pa => pe_call F (hr.mono hk) hg hm hkp hb .nil pass0 pa hd he hpl) ha hn

/-! ### the end -/
theorem walk {l : PySem.W.OpenLaw} {q : Program} {loose : List Str} {XP : (Str → Option Value) → Heap → Prop} {YP : World → Heap → Prop} {d : DefRec} {K : Params → PySem.W.Frag} {k : Nat} {f : List D → Option (D × Bool)} (hlaw : ∀ ns : List Int, ns.length ≤ 63 → ∃ fr, f [scrD ns] = some (.bool true, fr))
    (hn : l.most = some 63) (hdf : d.params.defaults = []) (hr : Room k callerA)
    (hY : ∀ (w : World) (h : Heap), YP w h → (K w.params).In h)
    (F : ∀ (w : World) (mg : Str → Option Value) (fa : Addr) (h : Heap), (K w.params).In h → h.Ns mainGlobals mg → mg d.name = some (.ref fa) →
      ∃ fd : FuncData, (∀ (s : Shared) (u : Value), BindsTo s fd ⟨[u], []⟩ [("script", u)]) ∧ ∀ base : Heap, (K w.params).In base → base.Ns mainGlobals mg → FnOk l.prog w (K w.params) mg base CX0 k fa fd ["script"] (spOf (K w.params) w 1 f)) :
    PySem.W.WalkO q loose XP YP l.row.toRowW d [] (fun f vs => PySem.call f vs) :=
  L2.walk_of (n := 63) (k := k) (x := "script") (CX := fun _ => CX0) (sp := fun w => spOf (K w.params) w 1 f) hn (by decide) hdf hr hY F (fun w H a ns hl ho hs => law_sp hlaw H a ns hl ho hs) fun _ _ _ _ _ z => z
end Wd
set_option maxRecDepth 100000
set_option maxHeartbeats 2000000
/-! Short forms for the printed derivations, continued. -/
namespace Wd
open PySem PySem.Spec L2
section
variable {X : Cx} {A0 : Addr → Prop} {H0 : Hp} {pos : Pos} {a b e : Expr} {xa xb x : Ex}
theorem pg_nameA {i : Nat} {n : Str} {p : Pos} (hN : X.N.Nodup) (hi : X.N[i]? = some n := by rfl) (hx : Loc X.env.scope n := by first | exact Or.inl rfl | exact Or.inr rfl) (hf : X.fn n = true ∨ X.env.scope.names.lookup n = some .local := by first | exact .inl rfl | exact .inr rfl) : PG X (.Name n p) (gName i) := pg_name hN hi hx hf
theorem sg_nameA {i : Nat} {n : Str} {p : Pos} (hN : X.N.Nodup) (hi : X.N[i]? = some n := by rfl) (hx : Loc X.env.scope n := by first | exact Or.inl rfl | exact Or.inr rfl) (hf : X.fn n = true ∨ X.env.scope.names.lookup n = some .local := by first | exact .inl rfl | exact .inr rfl) : SG X A0 H0 (.Name n p) (gName i) (tgN i) [i] := sg_name hN hi hx hf
theorem ss_retVA {i : Nat} {n : Str} {p : Pos} (hN : X.N[i]? = some n := by rfl) (hv : Vis X.env.scope n := by first | exact Or.inl rfl | exact Or.inr (Or.inl rfl) | exact Or.inr (Or.inr rfl)) (hd : (n == ("__debug__" : Str)) = false := by decide) (hcd : (n == ("__classdict__" : Str)) = false := by decide) : SS X A0 H0 (.Return (some (.Name n p)) pos) (sRetV i) := ss_retV hN hv hd hcd
theorem ss_augA {i : Nat} {n : Str} {p : Pos} {op : Operator} {r : R2} {f : D → D → Option D} (hN : X.N.Nodup) (he : SE X A0 H0 e x) (ho : OpR X (inplaceOp op) r)
    (h : ∀ (G G1 : Addr → Prop) (a b d : D) (u v : V) (H : Hp) (Q : VK), f a b = some d → Rep X.K X.w G H u a → Rep X.K X.w G1 H v b → (∀ z, (∀ G' H', Rep X.K X.w G' H' z d) → Q z H) → r u v H Q)
    (hi : X.N[i]? = some n := by rfl) (hx : Loc X.env.scope n := by first | exact Or.inl rfl | exact Or.inr rfl) (hf : X.fn n = true ∨ X.env.scope.names.lookup n = some .local := by first | exact .inl rfl | exact .inr rfl) : SS X A0 H0 (.AugAssign (.Name n p) op e pos) (sAug f i x) := ss_aug hN hi hx he ho h hf
theorem se_gintE {n : Str} {i : Int} (hg : Gl X n) (hm : ∃ t, X.mg n = some (.int i t)) (hd : (n == ("__debug__" : Str)) = false := by decide) : SE X A0 H0 (.Name n pos) (xC (.int i)) := let ⟨_, e⟩ := hm; se_gint hg e hd
theorem hu65 {A : Around} {k : Nat} (hr : Room k A) : A.units + 65 < cLine := by have := hr.un; omega
theorem se_ixA (hu : X.A.units + 1 < cLine) (ha : SE X A0 H0 a xa) (hb : SE X A0 H0 b xb) (hs : PlainIx b := by exact fun _ _ => rfl) : SE X A0 H0 (.Subscript a b pos) (xIx xa xb) := se_ix ha hb hs
theorem se_lenA {p : Pos} (hg : Gl X "len") (hm : X.mg "len" = none) (ha : SE X A0 H0 a xa) (he : starEach [a] X.env = (false, eval a X.env) :: starEach [] X.env := by rfl) : SE X A0 H0 (.Call (.Name "len" p) [a] [] pos) (xLen xa) := se_len hg hm ha he
end
end Wd
set_option maxRecDepth 100000
set_option maxHeartbeats 2000000
/-! Dicts whose keys are ints and texts, or tuples. -/
namespace Wd
open PySem PySem.Spec L2 PyProof.Rows

def kindS (kvs : List (D × D)) : Bool := kvs.all fun p => sKey p.1
def kindT (kvs : List (D × D)) : Bool := kvs.all fun p => tKey p.1
def kOk (kvs : List (D × D)) (k : D) : Bool := (sKey k && kindS kvs) || (tKey k && kindT kvs)
def lkD (kvs : List (D × D)) (k : D) : Option D := (kvs.find? fun p => decide (keyOf p.1 = keyOf k)).map (·.2)
def putD (kvs : List (D × D)) (k v : D) : List (D × D) :=
  if (kvs.any fun p => decide (keyOf p.1 = keyOf k)) = true then kvs.map (fun p => if keyOf p.1 = keyOf k then (p.1, v) else p) else kvs ++ [(k, v)]
theorem lkD_any (kvs : List (D × D)) (k : D) : (lkD kvs k).isSome = kvs.any fun p => decide (keyOf p.1 = keyOf k) := by
  unfold lkD
  rw [Option.isSome_map]
  induction kvs with
  | nil => rfl
  | cons p r ih =>
    rw [List.find?_cons, List.any_cons]
    by_cases h : keyOf p.1 = keyOf k
    · simp [h]
    · simp [h, ih]
theorem putD_keys {kvs : List (D × D)} {k v : D} : (putD kvs k v).map (fun p => keyOf p.1) = if (kvs.any fun p => decide (keyOf p.1 = keyOf k)) = true then kvs.map (fun p => keyOf p.1) else kvs.map (fun p => keyOf p.1) ++ [keyOf k] := by
  unfold putD
  split
  · rw [List.map_map]
    refine List.map_congr_left fun p _ => ?_
    show keyOf (if keyOf p.1 = keyOf k then (p.1, v) else p).1 = _
    split <;> rfl
  · rw [List.map_append]; rfl
theorem putD_nodup {kvs : List (D × D)} {k v : D} (h : (kvs.map fun p => keyOf p.1).Nodup) : ((putD kvs k v).map fun p => keyOf p.1).Nodup := by
  rw [putD_keys]
  split
  · exact h
  · next n =>
    refine List.nodup_append.mpr ⟨h, by simp, fun a ha b hb => ?_⟩
    rw [List.mem_singleton] at hb
    subst hb
    rintro rfl
    obtain ⟨p, hp, e⟩ := List.mem_map.mp ha
    exact n (List.any_eq_true.mpr ⟨p, hp, decide_eq_true e⟩)
theorem putD_len {kvs : List (D × D)} {k v : D} : (putD kvs k v).length ≤ kvs.length + 1 := by
  unfold putD
  split <;> simp
theorem putD_kind {kvs : List (D × D)} {k v : D} (h : kOk kvs k = true) : (kindS (putD kvs k v) || kindT (putD kvs k v)) = true := by
  have go : ∀ f : D → Bool, f k = true → kvs.all (fun p => f p.1) = true → (putD kvs k v).all (fun p => f p.1) = true := by
    intro f hk ha
    unfold putD
    split
    · rw [List.all_map]
      rw [List.all_eq_true] at ha ⊢
      intro p hp
      show f (if keyOf p.1 = keyOf k then (p.1, v) else p).1 = true
      split <;> exact ha p hp
    · rw [List.all_append, ha]
      simp [hk]
  unfold kOk at h
  rcases Bool.or_eq_true_iff.mp h with h | h
  · rw [Bool.and_eq_true] at h
    rw [Bool.or_eq_true]
    exact .inl (go sKey h.1 h.2)
  · rw [Bool.and_eq_true] at h
    rw [Bool.or_eq_true]
    exact .inr (go tKey h.1 h.2)

/-! ### keys on the heap -/
section
variable {X : Cx} {pins : List (Addr × Obj)} {σ : L2.St} {H : Hp} {s : Shared} {G : Addr → Prop}
mutual
theorem nested_is (I : Inv X pins σ H s) : ∀ {v : V} {d : D} {k : NestedKey} {u : Value}, Rep X.K X.w G H v d → keyOf d = some k → RelV v u → NestedIs s.heap k u
  | _, _, _, _, .non, e, r => by
    cases e
    cases (show _ = Value.none from r)
    exact .none
  | _, _, _, _, .bl b, e, r => by
    cases e
    cases (show _ = Value.bool b from r)
    exact .bool rfl
  | _, _, _, _, .int i, e, r => by
    cases e
    obtain ⟨t, rfl⟩ := r
    exact .int i t
  | _, _, _, _, .str x, e, r => by
    cases e
    obtain ⟨t, rfl⟩ := r
    exact .text x t
  | _, .tuple ds, _, _, .tup (a := a) (xs := xs) hs rs, e, r => by
    rw [keyOf] at e
    obtain ⟨ks, e1, e2⟩ := Option.map_eq_some_iff.mp e
    cases e2
    cases (show _ = Value.ref a from r)
    obtain ⟨its, vi, ⟨o, h1, h2, n, h3⟩, _⟩ := I.tuple hs
    exact .tup h1 h2 h3 (nested_all I rs e1 vi)
  | _, _, _, _, .lst _ _ _, e, _ => by simp [keyOf] at e
  | _, _, _, _, .dic _ _ _ _ _ _ _ _ _, e, _ => by simp [keyOf] at e
  | _, _, _, _, .scr _, e, _ => by simp [keyOf, scrD] at e
theorem nested_all (I : Inv X pins σ H s) : ∀ {vs : List V} {ds : List D} {ks : List NestedKey} {us : List Value}, RepL X.K X.w G H vs ds → keysOf ds = some ks → Vals vs us → NestedAll s.heap ks us
  | _, _, _, _, .nil, e, r => by
    rw [keysOf] at e
    cases e
    cases r
    exact .nil
  | _, d :: ds, _, _, .cons h t, e, r => by
    rw [keysOf] at e
    split at e
    · next k ks e1 e2 =>
      cases e
      cases r with
      | cons r1 r2 => exact .cons (nested_is I h e1 r1) (nested_all I t e2 r2)
    · cases e
end
def nk : Key → NestedKey
  | .inl i => .num i
  | .inr x => .text x
theorem nk_inj : ∀ {a b : Key}, nk a = nk b → a = b
  | .inl _, .inl _, e => by injection e with e; rw [e]
  | .inr _, .inr _, e => by injection e with e; rw [e]
  | .inl _, .inr _, e => nomatch e
  | .inr _, .inl _, e => nomatch e
theorem nk_hash (w : World) : ∀ k : Key, keyH w k = (nk k).hash w
  | .inl _ => by simp [nk, keyH, NestedKey.hash]
  | .inr _ => by simp [nk, keyH, NestedKey.hash]
theorem skey_is {K : PySem.W.Frag} {w : World} {v : V} {d : D} {u : Value} (h : sKey d = true) (r : Rep K w G H v d) (rv : RelV v u) : ∃ kk : Key, keyIs kk u = true ∧ keyOf d = some (nk kk) := by
  cases d with
  | int i => cases r.int_inv; obtain ⟨t, rfl⟩ := rv; exact ⟨.inl i, keyIs_int i t, rfl⟩
  | str x => cases r.str_inv; obtain ⟨t, rfl⟩ := rv; exact ⟨.inr x, keyIs_str x t, rfl⟩
  | _ => cases h
theorem skey_back {K : PySem.W.Frag} {w : World} {d : D} {u : Value} {kk : Key} (h : sKey d = true) (e : keyOf d = some (nk kk)) (hi : keyIs kk u = true) : ∃ v, RelV v u ∧ Rep K w G H v d := by
  cases d with
  | int i =>
    rcases keyIs_shape hi with ⟨j, t, rfl, rfl⟩ | ⟨x, t, rfl, rfl⟩
    · injection e with e; injection e with e; subst e; exact ⟨.int i, ⟨t, rfl⟩, .int i⟩
    · injection e with e; cases e
  | str y =>
    rcases keyIs_shape hi with ⟨j, t, rfl, rfl⟩ | ⟨x, t, rfl, rfl⟩
    · injection e with e; cases e
    · injection e with e; injection e with e; subst e; exact ⟨.str y, ⟨t, rfl⟩, .str y⟩
  | _ => cases h
theorem tkey_ref {K : PySem.W.Frag} {w : World} {v : V} {d : D} {u : Value} (h : tKey d = true) (r : RepT K w G H v d) (rv : RelV v u) : ∃ b k, v = .ref b ∧ u = .ref b ∧ keyOf d = some k ∧ k.depth ≤ 8 ∧ Rep K w G H (.ref b) d := by
  cases d with
  | tuple ds =>
    rcases r with r | ⟨a, e, t⟩
    · cases r with
      | tup hs rs =>
        unfold tKey at h
        dsimp only at h
        split at h
        · next k e => exact ⟨_, k, rfl, rv, e, of_decide_eq_true h, .tup hs rs⟩
        · cases h
    · cases t
  | _ => cases h

/-! ### entries -/
/-- scalar keys -/
inductive ES (K : PySem.W.Frag) (w : World) (G : Addr → Prop) (H : Hp) : List (Key × Value) → List (D × D) → Prop
  | nil : ES K w G H [] []
  | cons {k : Key} {v : Value} {vv : V} {dk dv : D} {vs : List (Key × Value)} {kvs : List (D × D)} : keyOf dk = some (nk k) → sKey dk = true → RelV vv v → Rep K w G H vv dv → ES K w G H vs kvs → ES K w G H ((k, v) :: vs) ((dk, dv) :: kvs)
/-- tuples as keys -/
inductive EX (K : PySem.W.Frag) (w : World) (G : Addr → Prop) (H : Hp) : List (NestedKey × Addr × Value) → List (D × D) → Prop
  | nil : EX K w G H [] []
  | cons {k : NestedKey} {b : Addr} {v : Value} {vv : V} {dk dv : D} {xs : List (NestedKey × Addr × Value)} {kvs : List (D × D)} : keyOf dk = some k → tKey dk = true → Rep K w G H (.ref b) dk → RelV vv v → Rep K w G H vv dv → EX K w G H xs kvs → EX K w G H ((k, b, v) :: xs) ((dk, dv) :: kvs)
section
variable {K : PySem.W.Frag} {w : World}
theorem EntL.toS {P : Program} : ∀ {es : List DictEntry} {kvs : List (D × D)}, EntL K w G H es kvs → kindS kvs = true → ∃ vs, Pairs (mixKind P w) es vs ∧ (∀ e ∈ es, ∃ k, keyIs k e.key = true ∧ e.hash = keyH w k) ∧ ES K w G H vs kvs
  | _, _, .nil, _ => ⟨[], .nil, by simp, .nil⟩
  | _, _, .cons (e := e) (dk := dk) h1 h2 h3 h4 h5 h6 r, c => by
    unfold kindS at c
    rw [List.all_cons, Bool.and_eq_true] at c
    obtain ⟨vs, a, b, z⟩ := EntL.toS (P := P) r c.2
    obtain ⟨kk, i1, i2⟩ := skey_is c.1 h2 h1
    rw [h3] at i2
    injection i2 with i2
    refine ⟨(kk, e.val) :: vs, .cons i1 rfl a, fun e' he => ?_, .cons (by rw [h3, i2]) c.1 h5 h6 z⟩
    rcases List.mem_cons.mp he with rfl | he
    · exact ⟨kk, i1, by rw [h4, i2, nk_hash]⟩
    · exact b e' he
theorem EntL.ofS {P : Program} : ∀ {es : List DictEntry} {vs : List (Key × Value)} {kvs : List (D × D)}, Pairs (mixKind P w) es vs → (∀ e ∈ es, ∃ k, keyIs k e.key = true ∧ e.hash = keyH w k) → ES K w G H vs kvs → EntL K w G H es kvs
  | _, _, _, .nil, _, .nil => .nil
  | _, _, _, .cons (e := e) p1 p2 ps, hk, .cons z1 z2 z3 z4 z5 => by
    obtain ⟨k', i1, i2⟩ := hk e List.mem_cons_self
    have ee := (mixKind P w).inj _ _ _ p1 i1
    subst ee
    obtain ⟨v, rv, rk⟩ := skey_back (K := K) (w := w) (G := G) (H := H) z2 z1 p1
    exact .cons rv rk z1 (by rw [i2, nk_hash]) (by rw [p2]; exact z3) z4 (EntL.ofS ps (fun e' he => hk e' (List.mem_cons_of_mem _ he)) z5)
theorem EntL.toT {P : Program} : ∀ {es : List DictEntry} {kvs : List (D × D)}, EntL K w G H es kvs → kindT kvs = true → ∃ xs, es = xs.map (entryOfKey (nestedKind P w)) ∧ EX K w G H xs kvs
  | _, _, .nil, _ => ⟨[], rfl, .nil⟩
  | _, _, .cons (e := e) (dk := dk) h1 h2 h3 h4 h5 h6 r, c => by
    unfold kindT at c
    rw [List.all_cons, Bool.and_eq_true] at c
    obtain ⟨xs, a, z⟩ := EntL.toT (P := P) r c.2
    obtain ⟨b, k, rfl, ek, e3, _, rk⟩ := tkey_ref c.1 (.inl h2) h1
    rw [h3] at e3
    injection e3 with e3
    subst e3
    refine ⟨(_, b, e.val) :: xs, ?_, .cons h3 c.1 rk h5 h6 z⟩
    rw [List.map_cons, ← a]
    congr 1
    cases e
    simp only at ek h4
    subst ek
    subst h4
    rfl
theorem EntL.ofT {P : Program} : ∀ {xs : List (NestedKey × Addr × Value)} {kvs : List (D × D)}, EX K w G H xs kvs → EntL K w G H (xs.map (entryOfKey (nestedKind P w))) kvs
  | _, _, .nil => .nil
  | _, _, .cons h1 _ h2 h3 h4 r => .cons (vk := .ref _) rfl h2 h1 rfl h3 h4 (EntL.ofT r)
theorem EX.is {I : Inv X pins σ H s} {P : Program} : ∀ {xs : List (NestedKey × Addr × Value)} {kvs : List (D × D)}, EX X.K X.w G H xs kvs → ∀ x ∈ xs, (nestedKind P X.w).is s.heap x.1 x.2.1
  | _, _, .nil, x, h => by simp at h
  | _, _, .cons h1 ht h2 h3 h4 r, x, h => by
    rcases List.mem_cons.mp h with rfl | h
    · obtain ⟨b, k, e, _, e3, e4, _⟩ := tkey_ref ht (.inl h2) rfl
      rw [h1] at e3
      cases e3
      exact ⟨nested_is I h2 h1 rfl, e4⟩
    · exact EX.is (I := I) r x h
theorem ES.keys : ∀ {vs : List (Key × Value)} {kvs : List (D × D)}, ES K w G H vs kvs → kvs.map (fun p => keyOf p.1) = vs.map fun p => some (nk p.1)
  | _, _, .nil => rfl
  | _, _, .cons h1 _ _ _ r => by rw [List.map_cons, List.map_cons, ES.keys r, h1]
theorem EX.keys : ∀ {xs : List (NestedKey × Addr × Value)} {kvs : List (D × D)}, EX K w G H xs kvs → kvs.map (fun p => keyOf p.1) = xs.map fun p => some p.1
  | _, _, .nil => rfl
  | _, _, .cons h1 _ _ _ _ r => by rw [List.map_cons, List.map_cons, EX.keys r, h1]
theorem ES.nd {vs : List (Key × Value)} {kvs : List (D × D)} (h : ES K w G H vs kvs) (n : (kvs.map fun p => keyOf p.1).Nodup) : (vs.map (·.1)).Nodup := by
  rw [h.keys] at n
  have : (vs.map (·.1)).map (fun k => some (nk k)) = vs.map fun p => some (nk p.1) := by rw [List.map_map]; rfl
  rw [← this] at n
  exact (List.pairwise_map.mp n).imp fun h e => h (by rw [e])
theorem EX.nd {xs : List (NestedKey × Addr × Value)} {kvs : List (D × D)} (h : EX K w G H xs kvs) (n : (kvs.map fun p => keyOf p.1).Nodup) : (xs.map (·.1)).Nodup := by
  rw [h.keys] at n
  have : (xs.map (·.1)).map (fun k => some k) = xs.map fun p => some p.1 := by rw [List.map_map]; rfl
  rw [← this] at n
  exact (List.pairwise_map.mp n).imp fun h e => h (by rw [e])
theorem ES.lk {k : Key} {d : D} (e : keyOf d = some (nk k)) : ∀ {vs : List (Key × Value)} {kvs : List (D × D)}, ES K w G H vs kvs → (valueAt vs k = none ∧ lkD kvs d = none) ∨ ∃ v vv dv, valueAt vs k = some v ∧ lkD kvs d = some dv ∧ RelV vv v ∧ Rep K w G H vv dv
  | _, _, .nil => .inl ⟨rfl, rfl⟩
  | _, _, .cons (k := k') (dk := dk) h1 h2 h3 h4 r => by
    by_cases hk : k' = k
    · refine .inr ⟨_, _, _, ?_, ?_, h3, h4⟩
      · simp [valueAt, List.find?_cons, hk]
      · simp [lkD, List.find?_cons, h1, hk, e]
    · have hn : ¬ nk k' = nk k := fun z => hk (nk_inj z)
      have := ES.lk e r
      simpa [valueAt, lkD, List.find?_cons, h1, hk, e, hn] using this
theorem EX.lk {k : NestedKey} {d : D} (e : keyOf d = some k) : ∀ {xs : List (NestedKey × Addr × Value)} {kvs : List (D × D)}, EX K w G H xs kvs → (atKey xs k = none ∧ lkD kvs d = none) ∨ ∃ b v vv dv, atKey xs k = some (b, v) ∧ lkD kvs d = some dv ∧ RelV vv v ∧ Rep K w G H vv dv
  | _, _, .nil => .inl ⟨rfl, rfl⟩
  | _, _, .cons (k := k') (dk := dk) h1 _ h2 h3 h4 r => by
    by_cases hk : k' = k
    · refine .inr ⟨_, _, _, _, by simp [atKey, List.find?_cons, hk]; rfl, ?_, h3, h4⟩
      · simp [lkD, List.find?_cons, h1, hk, e]
    · have := EX.lk e r
      simpa [atKey, lkD, List.find?_cons, h1, hk, e] using this
theorem ES.map {k : Key} {d dv : D} {v : Value} {vv : V} (e : keyOf d = some (nk k)) (rv : RelV vv v) (r : Rep K w G H vv dv) : ∀ {vs : List (Key × Value)} {kvs : List (D × D)}, ES K w G H vs kvs → ES K w G H (vs.map fun kv => if kv.1 = k then (kv.1, v) else kv) (kvs.map fun p => if keyOf p.1 = keyOf d then (p.1, dv) else p)
  | _, _, .nil => .nil
  | _, _, .cons (k := k') (dk := dk) h1 h2 h3 h4 t => by
    rw [List.map_cons, List.map_cons]
    by_cases hk : k' = k
    · rw [if_pos hk, if_pos (by rw [h1, e, hk])]
      exact .cons h1 h2 rv r (ES.map e rv r t)
    · rw [if_neg hk, if_neg (by rw [h1, e]; intro z; injection z with z; exact hk (nk_inj z))]
      exact .cons h1 h2 h3 h4 (ES.map e rv r t)
theorem ES.snoc {k : Key} {d dv : D} {v : Value} {vv : V} (e : keyOf d = some (nk k)) (sk : sKey d = true) (rv : RelV vv v) (r : Rep K w G H vv dv) : ∀ {vs : List (Key × Value)} {kvs : List (D × D)}, ES K w G H vs kvs → ES K w G H (vs ++ [(k, v)]) (kvs ++ [(d, dv)])
  | _, _, .nil => .cons e sk rv r .nil
  | _, _, .cons h1 h2 h3 h4 t => .cons h1 h2 h3 h4 (ES.snoc e sk rv r t)
theorem ES.put {k : Key} {d dv : D} {v : Value} {vv : V} (e : keyOf d = some (nk k)) (sk : sKey d = true) (rv : RelV vv v) (r : Rep K w G H vv dv) {vs : List (Key × Value)} {kvs : List (D × D)} (h : ES K w G H vs kvs) : ES K w G H (stored vs k v) (putD kvs d dv) := by
  have q : (vs.any fun kv => decide (kv.1 = k)) = kvs.any fun p => decide (keyOf p.1 = keyOf d) := by
    clear rv r sk
    induction h with
    | nil => rfl
    | @cons k' _ _ dk _ _ _ h1 _ _ _ _ ih =>
      rw [List.any_cons, List.any_cons, ih]
      congr 1
      by_cases hk : k' = k
      · simp [hk, h1, e]
      · have hn : ¬ nk k' = nk k := fun z => hk (nk_inj z)
        simp [hk, h1, e, hn]
  unfold stored putD
  rw [← q]
  split
  · exact ES.map e rv r h
  · exact ES.snoc e sk rv r h
theorem EX.map {k : NestedKey} {d dv : D} {v : Value} {vv : V} (e : keyOf d = some k) (rv : RelV vv v) (r : Rep K w G H vv dv) : ∀ {xs : List (NestedKey × Addr × Value)} {kvs : List (D × D)}, EX K w G H xs kvs → EX K w G H (xs.map (putAt k v)) (kvs.map fun p => if keyOf p.1 = keyOf d then (p.1, dv) else p)
  | _, _, .nil => .nil
  | _, _, .cons (k := k') (dk := dk) h1 ht h2 h3 h4 t => by
    rw [List.map_cons, List.map_cons, putAt]
    by_cases hk : k' = k
    · rw [if_pos hk, if_pos (by rw [h1, e, hk])]
      exact .cons h1 ht h2 rv r (EX.map e rv r t)
    · rw [if_neg hk, if_neg (by rw [h1, e]; intro z; injection z with z; exact hk z)]
      exact .cons h1 ht h2 h3 h4 (EX.map e rv r t)
theorem EX.snoc {k : NestedKey} {b : Addr} {d dv : D} {v : Value} {vv : V} (e : keyOf d = some k) (ht : tKey d = true) (rb : Rep K w G H (.ref b) d) (rv : RelV vv v) (r : Rep K w G H vv dv) : ∀ {xs : List (NestedKey × Addr × Value)} {kvs : List (D × D)}, EX K w G H xs kvs → EX K w G H (xs ++ [(k, b, v)]) (kvs ++ [(d, dv)])
  | _, _, .nil => .cons e ht rb rv r .nil
  | _, _, .cons h1 ht' h2 h3 h4 t => .cons h1 ht' h2 h3 h4 (EX.snoc e ht rb rv r t)
theorem EX.put {k : NestedKey} {b : Addr} {d dv : D} {v : Value} {vv : V} (e : keyOf d = some k) (ht : tKey d = true) (rb : Rep K w G H (.ref b) d) (rv : RelV vv v) (r : Rep K w G H vv dv) {xs : List (NestedKey × Addr × Value)} {kvs : List (D × D)} (h : EX K w G H xs kvs) : EX K w G H (storedH xs k b v) (putD kvs d dv) := by
  have q : (atKey xs k).isSome = kvs.any fun p => decide (keyOf p.1 = keyOf d) := by
    rw [← lkD_any]
    rcases h.lk e with ⟨a, b⟩ | ⟨_, _, _, _, a, b, _⟩ <;> rw [a, b] <;> rfl
  unfold storedH putD
  rw [← q]
  split
  · exact EX.map e rv r h
  · exact EX.snoc e ht rb rv r h
end
end
end Wd
set_option maxRecDepth 100000
set_option maxHeartbeats 2000000
/-! Dicts: the rules. -/
namespace Wd
open PySem PySem.Spec L2 PyProof.Rows
section
variable {X : Cx} {pins : List (Addr × Obj)} {σ : L2.St} {H : Hp} {s : Shared} {G G1 : Addr → Prop} {a : Addr} {o : Obj} {kvs : List (D × D)}
theorem DicF.get (I : Inv X pins σ H s) (f : DicF X.K X.w G H a o kvs) : s.heap.get? a = some o := (I.hok a _ f.at_).1
theorem DicF.typeIs (I : Inv X pins σ H s) (f : DicF X.K X.w G H a o kvs) : s.TypeIs (.ref a) "dict" := ⟨o, f.get I, f.obj.1⟩
theorem DicF.toS (I : Inv X pins σ H s) (f : DicF X.K X.w G H a o kvs) (c : kindS kvs = true) : ∃ vs, s.heap.DictOf (mixKind X.prog X.w) a vs ∧ ES X.K X.w G H vs kvs := by
  obtain ⟨es, ep, hd, el⟩ := f.ent
  obtain ⟨vs, p, k, z⟩ := el.toS (P := X.prog) c
  exact ⟨vs, ⟨o, es, ep, f.get I, f.obj, hd, fun e he => k e (Array.mem_toList_iff.mpr he), p, z.nd f.nd⟩, z⟩
theorem DicF.toT (I : Inv X pins σ H s) (f : DicF X.K X.w G H a o kvs) (c : kindT kvs = true) : ∃ xs, s.heap.DictOfH (nestedKind X.prog X.w) a xs ∧ EX X.K X.w G H xs kvs := by
  obtain ⟨es, ep, hd, el⟩ := f.ent
  obtain ⟨xs, e, z⟩ := el.toT (P := X.prog) c
  exact ⟨xs, ⟨o, es, ep, f.get I, f.obj, hd, e, EX.is (I := I) z, z.nd f.nd⟩, z⟩
theorem ES.len {K : PySem.W.Frag} {w : World} {vs : List (Key × Value)} (h : ES K w G H vs kvs) : vs.length = kvs.length := by
  have := congrArg List.length h.keys
  simpa using this.symm
theorem EX.len {K : PySem.W.Frag} {w : World} {vs : List (NestedKey × Addr × Value)} (h : EX K w G H vs kvs) : vs.length = kvs.length := by
  have := congrArg List.length h.keys
  simpa using this.symm
theorem nroom {A : Around} (hu : A.units + 65 < cLine) : (nestedKind X.prog X.w).room A.in1 := by
  show A.units + 1 + 8 < cLine
  omega
/-- d[k] -/
def rIxX (K : PySem.W.Frag) (w : World) : R2 := fun x y H Q => ∃ (G G1 : Addr → Prop) (a : Addr) (o : Obj) (kvs : List (D × D)) (dk dv : D), x = .ref a ∧ DicF K w G H a o kvs ∧ kOk kvs dk = true ∧ Rep K w G1 H y dk ∧ lkD kvs dk = some dv ∧ ∀ z, Rep K w G H z dv → Q z H
theorem ix_dic (hu : X.A.units + 65 < cLine) : IxR X (rIxX X.K X.w) := by
  intro value slice pins s σ H x y v u Q I rx ry h hs
  obtain ⟨G, G1, a, o, kvs, dk, dv, rfl, f, ko, ry', lk, q⟩ := h
  obtain rfl : v = Value.ref a := rx
  refine tail_any (f.typeIs I) slot_dict_getitem.lookup ?_ hs
  unfold kOk at ko
  rcases Bool.or_eq_true_iff.mp ko with c | c <;> rw [Bool.and_eq_true] at c
  · obtain ⟨kk, k1, k2⟩ := skey_is c.1 ry' ry
    obtain ⟨vs, dd, z⟩ := f.toS I c.2
    rcases z.lk k2 with ⟨_, n⟩ | ⟨v', vv, dv', e1, e2, rv, rr⟩
    · rw [lk] at n; cases n
    · rw [lk] at e2; cases e2
      exact wpAny_getItem_of k1 dd.mapOf e1 ⟨vv, H, I.tok _, rv, q vv rr⟩
  · obtain ⟨b, k, e1, e2, ek, ed, rb⟩ := tkey_ref c.1 (.inl ry') ry
    subst e2
    obtain ⟨xs, dd, z⟩ := f.toT I c.2
    rcases z.lk ek with ⟨_, n⟩ | ⟨b', v', vv, dv', e3, e4, rv, rr⟩
    · rw [lk] at n; cases n
    · rw [lk] at e4; cases e4
      exact wpAny_getItem_heap (nroom hu) ⟨nested_is I rb ek rfl, ed⟩ dd e3 ⟨vv, H, I.tok _, rv, q vv rr⟩
/-- k in d -/
def rInX (K : PySem.W.Frag) (w : World) (neg : Bool) : R2 := fun x y H Q => ∃ (G G1 : Addr → Prop) (a : Addr) (o : Obj) (kvs : List (D × D)) (dk : D), y = .ref a ∧ DicF K w G H a o kvs ∧ kOk kvs dk = true ∧ Rep K w G1 H x dk ∧ Q (.bl (if neg = true then !(lkD kvs dk).isSome else (lkD kvs dk).isSome)) H
theorem op_in_dic (hu : X.A.units + 65 < cLine) : OpR X (compareOp .In) (rInX X.K X.w false) := by
  intro pins s σ H x y v u Q I rx ry h
  obtain ⟨G, G1, a, o, kvs, dk, rfl, f, ko, rx', q⟩ := h
  obtain rfl : u = Value.ref a := ry
  rw [if_neg (by decide)] at q
  unfold kOk at ko
  rcases Bool.or_eq_true_iff.mp ko with c | c <;> rw [Bool.and_eq_true] at c
  · obtain ⟨kk, k1, k2⟩ := skey_is c.1 rx' rx
    obtain ⟨vs, dd, z⟩ := f.toS I c.2
    have e : (valueAt vs kk).isSome = (lkD kvs dk).isSome := by
      rcases z.lk k2 with ⟨e1, e2⟩ | ⟨v', vv, dv', e1, e2, rv, rr⟩ <;> rw [e1, e2] <;> rfl
    exact wpAny_in_of k1 f.ns dd.mapOf ⟨.bl (lkD kvs dk).isSome, H, I.tok _, by rw [e]; rfl, q⟩
  · obtain ⟨b, k, e1, e2, ek, ed, rb⟩ := tkey_ref c.1 (.inl rx') rx
    subst e2
    obtain ⟨xs, dd, z⟩ := f.toT I c.2
    have e : (atKey xs k).isSome = (lkD kvs dk).isSome := by
      rcases z.lk ek with ⟨e1, e2⟩ | ⟨b', v', vv, dv', e1, e2, rv, rr⟩ <;> rw [e1, e2] <;> rfl
    exact wpAny_in_heap (nroom hu) ⟨nested_is I rb ek rfl, ed⟩ f.ns dd ⟨.bl (lkD kvs dk).isSome, H, I.tok _, by rw [e]; rfl, q⟩
theorem op_notIn_dic (hu : X.A.units + 65 < cLine) : OpR X (compareOp .NotIn) (rInX X.K X.w true) := by
  intro pins s σ H x y v u Q I rx ry h
  obtain ⟨G, G1, a, o, kvs, dk, rfl, f, ko, rx', q⟩ := h
  obtain rfl : u = Value.ref a := ry
  rw [if_pos rfl] at q
  unfold kOk at ko
  rcases Bool.or_eq_true_iff.mp ko with c | c <;> rw [Bool.and_eq_true] at c
  · obtain ⟨kk, k1, k2⟩ := skey_is c.1 rx' rx
    obtain ⟨vs, dd, z⟩ := f.toS I c.2
    have e : (valueAt vs kk).isSome = (lkD kvs dk).isSome := by
      rcases z.lk k2 with ⟨e1, e2⟩ | ⟨v', vv, dv', e1, e2, rv, rr⟩ <;> rw [e1, e2] <;> rfl
    exact wpAny_notIn_of k1 f.ns dd.mapOf ⟨.bl (!(lkD kvs dk).isSome), H, I.tok _, by rw [e]; rfl, q⟩
  · obtain ⟨b, k, e1, e2, ek, ed, rb⟩ := tkey_ref c.1 (.inl rx') rx
    subst e2
    obtain ⟨xs, dd, z⟩ := f.toT I c.2
    have e : (atKey xs k).isSome = (lkD kvs dk).isSome := by
      rcases z.lk ek with ⟨e1, e2⟩ | ⟨b', v', vv, dv', e1, e2, rv, rr⟩ <;> rw [e1, e2] <;> rfl
    exact wpAny_notIn_heap (nroom hu) ⟨nested_is I rb ek rfl, ed⟩ f.ns dd ⟨.bl (!(lkD kvs dk).isSome), H, I.tok _, by rw [e]; rfl, q⟩
/-- d[k] = v -/
def rSetX (K : PySem.W.Frag) (w : World) : V → V → V → Hp → (Hp → Prop) → Prop := fun x i v H Q => ∃ (G G1 : Addr → Prop) (a : Addr) (o : Obj) (kvs : List (D × D)) (dk dv : D), x = .ref a ∧ DicF K w G H a o kvs ∧ (∀ b, G b → b ≠ a) ∧ kOk kvs dk = true ∧ Rep K w G H i dk ∧ Rep K w G H v dv ∧ kvs.length < LIM ∧
  ∀ o', Top K w G (upd H a (isO a o')) a (.dict (putD kvs dk dv)) → Q (upd H a (isO a o'))
theorem isO_new {H' : Hp} {h' : Heap} {o' : Obj} (e : h'.get? a = some o') : ObjOk X.prog X.w H' h' a (isO a o') := ⟨e, ⟨o', e⟩, fun h1 h2 p k => k _ p⟩
theorem kp_upd {K : PySem.W.Frag} {o o' : Obj} (e : H a = some (isO a o)) (g : ∀ b, G b → b ≠ a) : Kp K G G H (upd H a (isO a o')) := ⟨fun b xs h => by rw [upd_ne (ne_of h e fun z => nomatch z)]; exact h, fun b ob u h => by rw [upd_ne (ne_of h e fun z => nomatch z)]; exact h, fun b ob gb h => by rw [upd_ne (g b gb)]; exact h, fun b g _ => g⟩
theorem set_dic (hu : X.A.units + 65 < cLine) : PSet X (rSetX X.K X.w) := by
  intro pins s σ H x i v ov iv u Q I ro ri rv h
  obtain ⟨G, G1, a, o, kvs, dk, dv, rfl, f, ga, ko, rk, rd, hl, q⟩ := h
  obtain rfl : ov = Value.ref a := ro
  have kp := fun o' : Obj => kp_upd (K := X.K) (o' := o') f.at_ ga
  have hl' : (putD kvs dk dv).length ≤ sizeLine := Nat.le_trans putD_len (lim_lt hl)
  have ko' := ko
  unfold kOk at ko
  rcases Bool.or_eq_true_iff.mp ko with c | c <;> rw [Bool.and_eq_true] at c
  · obtain ⟨kk, k1, k2⟩ := skey_is c.1 rk ri
    obtain ⟨vs, dd, z⟩ := f.toS I c.2
    refine wpAny_setItem_pairs (hsz := by rw [z.len]; exact f.len) k1 dd fun h' dd' hs => ?_
    obtain ⟨o', es, ep, g1, g2, g3, g4, g5, g6⟩ := dd'
    refine ⟨_, d_write I (by rw [f.at_]; exact True.intro) hs ⟨o', g1⟩ (isO_new g1), q o' (.dic upd_same g2 g3 ?_ (putD_nodup f.nd) hl' f.ns (putD_kind ko'))⟩
    have z' := z.put k2 c.1 rv rd
    exact (EntL.ofS (P := X.prog) g5 (fun e he => g4 e (Array.mem_toList_iff.mp he)) z').keep (kp o')
  · obtain ⟨b, k, e1, e2, ek, ed, rb⟩ := tkey_ref c.1 (.inl rk) ri
    subst e2
    obtain ⟨xs, dd, z⟩ := f.toT I c.2
    refine wpAny_setItem_heap (hsz := by rw [z.len]; exact f.len) (nroom hu) ⟨nested_is I rb ek rfl, ed⟩ dd fun h' dd' hs => ?_
    obtain ⟨o', es, ep, g1, g2, g3, g4, g5, g6⟩ := dd'
    refine ⟨_, d_write I (by rw [f.at_]; exact True.intro) hs ⟨o', g1⟩ (isO_new g1), q o' (.dic upd_same g2 g3 ?_ (putD_nodup f.nd) hl' f.ns (putD_kind ko'))⟩
    have z' := z.put ek c.1 rb rv rd
    rw [g4]
    exact (EntL.ofT (P := X.prog) z').keep (kp o')
theorem PSet.or {t t' : TSet} (h : PSet X t) (h' : PSet X t') : PSet X (fun o i v H Q => t o i v H Q ∨ t' o i v H Q) := by
  intro pins s σ H o i v ov iv u Q I r1 r2 r3 q
  rcases q with q | q
  · exact h pins s σ H o i v ov iv u Q I r1 r2 r3 q
  · exact h' pins s σ H o i v ov iv u Q I r1 r2 r3 q
/-- {} -/
def tDNewX : TE := fun _ H Q => ∀ p o, H p = none → o.ExactDict → o.data = .dict #[] 0 → (p == sysModules) = false → Q (.ref p) (upd H p (isO p o))
theorem pe_dnewX {pos : Pos} : PE X (.Dict [] [] pos) tDNewX := ⟨fun pins s σ H Q I h =>
  wpAny_Dict_empty ⟨.ref s.heap.objs.size, _, I.laid (a := s.heap.objs.size) (o := isO s.heap.objs.size { cls := .type "dict", data := .dict #[] }) (t' := s.toks) (fun _ _ q => Heap.get?_push_of_some _ q) (Nat.le_refl _) (isO_new (Heap.get?_push_size _ rfl)), rfl,
    h _ _ (I.hok.fresh (Nat.le_refl _)) ⟨rfl, rfl, rfl⟩ rfl (beq_eq_false_iff_ne.mpr (Ne.symm (Nat.ne_of_lt I.big)))⟩⟩
end
section
variable {X : Cx} {A0 : Addr → Prop} {H0 : Hp} {pos : Pos} {a b e : Expr} {xa xb x : Ex} {st : Stmt}
/-- d[k], xs[i] -/
def dIxA (x y : D) : Option D := match x with
  | .dict kvs => match scrOf kvs with
    | some _ => dIx x y
    | none => if kOk kvs y = true then lkD kvs y else none
  | _ => dIx x y
@[simp] def xIxA (a b : Ex) : Ex := x2 (sc dIxA) a.il a b
def rIxA (K : PySem.W.Frag) (w : World) : R2 := fun x y H Q => rIx K x y H Q ∨ rIxX K w x y H Q
theorem ixA_ok {K : PySem.W.Frag} {w : World} {G G1 : Addr → Prop} {H : Hp} {x y d : D} {u v : V} {Q : VK} (e : dIxA x y = some d) (r1 : RepT K w G H u x) (r2 : Rep K w G1 H v y) (k : ∀ z, Rep K w G H z d → Q z H) : rIxA K w u v H Q := by
  unfold dIxA at e
  split at e
  · next kvs =>
    split at e
    · exact .inl (ix_ok e r1 r2 k)
    · next hn =>
      split at e
      · next ko =>
        rcases r1.dic_inv with ⟨a, ns, rfl, hf, hs⟩ | ⟨a, o, rfl, f⟩
        · rw [hn] at hs; cases hs
        · exact .inr ⟨G, G1, a, o, kvs, y, d, rfl, f, ko, r2, e, k⟩
      · cases e
  · exact .inl (ix_ok e r1 r2 k)
theorem se_ixD (hu : X.A.units + 65 < cLine) (ha : SE X A0 H0 a xa) (hb : SE X A0 H0 b xb) (hs : PlainIx b := by exact fun _ _ => rfl) : SE X A0 H0 (.Subscript a b pos) (xIxA xa xb) := by
  refine ⟨peI (pe_ix (ix_seq.or (ix_dic hu)) ha.pe hb.pe hs) fun σ H Q ⟨oa, ρ, d, fr, E, ev, k⟩ => ?_⟩
  obtain ⟨x, fx, y, fy, ex, ey, e1, rfl⟩ := ev2 ev
  refine ⟨oa, ρ, x, fx, E, ex, fun u H1 s1 r1 => ⟨oa, ρ, y, fy, E.ext s1, ey, fun v H2 s2 r2 => ?_⟩⟩
  exact ixA_ok e1 (r1.top.keep s2 fun _ g _ => g) r2.rep fun z rz => k z H2 (s1.trans s2) (.of rz)
/-- k in d; x in a list -/
def inD (x y : D) : Option Bool := match y with
  | .dict kvs => match scrOf kvs with
    | some _ => none
    | none => if kOk kvs x = true then some (lkD kvs x).isSome else none
  | .list ds => if (SeqAt.shaped x && SeqAt.shaped (.list ds)) = true then some (ds.any fun z => PyData.eqv z x) else none
  | _ => none
def dIn (x y : D) : Option D := (inD x y).map .bool
def dNotIn (x y : D) : Option D := (inD x y).map fun b => .bool (!b)
@[simp] def xIn (a b : Ex) : Ex := x2 (sc dIn) [] a b
@[simp] def xNotIn (a b : Ex) : Ex := x2 (sc dNotIn) [] a b
theorem inD_ok {K : PySem.W.Frag} {w : World} {G G1 : Addr → Prop} {H : Hp} {x y : D} {b : Bool} {u v : V} (e : inD x y = some b) (r1 : Rep K w G H u x) (r2 : Rep K w G1 H v y) :
    (∃ d ds, Dp K H u d ∧ Dp K H v (.list ds) ∧ SeqAt.shaped d = true ∧ SeqAt.shaped (.list ds) = true ∧ (ds.any fun z => PyData.eqv z d) = b) ∨ ∃ (G G1 : Addr → Prop) (a : Addr) (o : Obj) (kvs : List (D × D)) (dk : D), v = .ref a ∧ DicF K w G H a o kvs ∧ kOk kvs dk = true ∧ Rep K w G1 H u dk ∧ (lkD kvs dk).isSome = b := by
  unfold inD at e
  split at e
  · next kvs =>
    split at e
    · cases e
    · next hn =>
      split at e
      · next ko =>
        cases e
        rcases RepT.dic_inv (.inl r2) with ⟨a, ns, rfl, hf, hs⟩ | ⟨a, o, rfl, f⟩
        · rw [hn] at hs; cases hs
        · exact .inr ⟨G1, G, a, o, kvs, x, rfl, f, ko, r1, rfl⟩
      · cases e
  · next ds =>
    split at e
    · next hs =>
      cases e
      rw [Bool.and_eq_true] at hs
      exact .inl ⟨x, ds, r1.dp (SeqAt.canLay_of_shaped hs.1), r2.dp (SeqAt.canLay_of_shaped hs.2), hs.1, hs.2, rfl⟩
    · cases e
  · cases e
theorem s_in {K : PySem.W.Frag} {w : World} : ∀ (G G1 : Addr → Prop) (x y d : D) (u v : V) (H : Hp) (Q : VK), dIn x y = some d → Rep K w G H u x → Rep K w G1 H v y → (∀ z, (∀ G' H', Rep K w G' H' z d) → Q z H) → rInD K u v H Q ∨ rInX K w false u v H Q := by
  intro G G1 x y d u v H Q e r1 r2 k
  obtain ⟨b, e1, e2⟩ := Option.map_eq_some_iff.mp e
  cases e2
  rcases inD_ok e1 r1 r2 with ⟨d, ds, h1, h2, h3, h4, h5⟩ | ⟨G', G1', a, o, kvs, dk, h1, h2, h3, h4, h5⟩
  · exact .inl ⟨d, ds, h1, h2, h3, h4, by rw [h5]; exact k _ fun _ _ => .bl _⟩
  · exact .inr ⟨G', G1', a, o, kvs, dk, h1, h2, h3, h4, by rw [if_neg (by decide), h5]; exact k _ fun _ _ => .bl _⟩
theorem s_notin {K : PySem.W.Frag} {w : World} : ∀ (G G1 : Addr → Prop) (x y d : D) (u v : V) (H : Hp) (Q : VK), dNotIn x y = some d → Rep K w G H u x → Rep K w G1 H v y → (∀ z, (∀ G' H', Rep K w G' H' z d) → Q z H) → rNotInD K u v H Q ∨ rInX K w true u v H Q := by
  intro G G1 x y d u v H Q e r1 r2 k
  obtain ⟨b, e1, e2⟩ := Option.map_eq_some_iff.mp e
  cases e2
  rcases inD_ok e1 r1 r2 with ⟨d, ds, h1, h2, h3, h4, h5⟩ | ⟨G', G1', a, o, kvs, dk, h1, h2, h3, h4, h5⟩
  · exact .inl ⟨d, ds, h1, h2, h3, h4, by rw [h5]; exact k _ fun _ _ => .bl _⟩
  · exact .inr ⟨G', G1', a, o, kvs, dk, h1, h2, h3, h4, by rw [if_pos rfl, h5]; exact k _ fun _ _ => .bl _⟩
theorem se_in (hu : X.A.units + 65 < cLine) (ha : SE X A0 H0 a xa) (hb : SE X A0 H0 b xb) (hm : behindInMarks .In b = false := by rfl) : SE X A0 H0 (.Compare a [.In] [b] pos) (xIn xa xb) := se_cmp ((op_inD hu).or (op_in_dic hu)) s_in ha hb hm
theorem sb_in (hu : X.A.units + 65 < cLine) (ha : SE X A0 H0 a xa) (hb : SE X A0 H0 b xb) (hm : behindInMarks .In b = false := by rfl) : SB X A0 H0 (.Compare a [.In] [b] pos) (xIn xa xb) := sb_cmp ((op_inD hu).or (op_in_dic hu)) s_in ha hb hm
theorem se_notin (hu : X.A.units + 65 < cLine) (ha : SE X A0 H0 a xa) (hb : SE X A0 H0 b xb) (hm : behindInMarks .NotIn b = false := by rfl) : SE X A0 H0 (.Compare a [.NotIn] [b] pos) (xNotIn xa xb) := se_cmp ((op_notInD hu).or (op_notIn_dic hu)) s_notin ha hb hm
theorem sb_notin (hu : X.A.units + 65 < cLine) (ha : SE X A0 H0 a xa) (hb : SE X A0 H0 b xb) (hm : behindInMarks .NotIn b = false := by rfl) : SB X A0 H0 (.Compare a [.NotIn] [b] pos) (xNotIn xa xb) := sb_cmp ((op_notInD hu).or (op_notIn_dic hu)) s_notin ha hb hm
/-- {} -/
def xDic0 : Ex := ⟨fun _ => some (.dict [], true), [], []⟩
theorem se_dic0 : SE X A0 H0 (.Dict [] [] pos) xDic0 := by
  refine ⟨peI pe_dnewX fun σ H Q ⟨oa, ρ, d, fr, E, ev, k⟩ p o hp hx hd hs => ?_⟩
  cases ev
  have s := same_new (o := isO p o) hp
  have t : Top X.K X.w (fun b => Gd A0 H0 oa [] b ∧ b ≠ p) (upd H p (isO p o)) p (.dict []) := .dic upd_same hx hd .nil List.nodup_nil (by decide) hs rfl
  have rr : Rep X.K X.w (Gd A0 H0 oa []) (upd H p (isO p o)) (.ref p) (.dict []) := t.rep (gd_new E hp) fun b g => g.1
  exact k _ _ s ⟨rr, .inl rr, fun _ => ⟨p, rfl, hp, t⟩⟩
/-- the owned thing of a slot -/
def ownA (ρ : Rho) (i : Nat) : Option D := match ρ[i]? with
  | some (.own d) => some d
  | _ => none
theorem ownA_eq {ρ : Rho} {i : Nat} {d : D} (h : ownA ρ i = some d) : ρ[i]? = some (.own d) := by
  unfold ownA at h
  split at h
  · next e => cases h; exact e
  · cases h
def setD (o k v : D) : Option D := match o, k with
  | .list ds, .int z => (ixN ds.length z).map fun j => .list (ds.set j v)
  | .dict kvs, k => if kOk kvs k = true ∧ (scrOf kvs).isNone = true ∧ kvs.length < LIM then some (.dict (putD kvs k v)) else none
  | _, _ => none
mutual
theorem imm_key : ∀ {d : D} {k : NestedKey}, keyOf d = some k → imm d = true
  | .none, _, _ => rfl
  | .bool _, _, _ => rfl
  | .int _, _, _ => rfl
  | .str _, _, _ => rfl
  | .tuple ds, _, e => by
    rw [keyOf] at e
    obtain ⟨ks, e1, _⟩ := Option.map_eq_some_iff.mp e
    rw [imm]
    exact imm_keys e1
  | .list _, _, e => by simp [keyOf] at e
  | .dict _, _, e => by simp [keyOf] at e
theorem imm_keys : ∀ {ds : List D} {ks : List NestedKey}, keysOf ds = some ks → immL ds = true
  | [], _, _ => rfl
  | d :: ds, _, e => by
    rw [keysOf] at e
    split at e
    · next k ks e1 e2 =>
      rw [immL, imm_key e1, imm_keys e2]
      rfl
    · cases e
end
theorem imm_kOk {kvs : List (D × D)} {k : D} (h : kOk kvs k = true) : imm k = true := by
  unfold kOk at h
  rcases Bool.or_eq_true_iff.mp h with c | c <;> rw [Bool.and_eq_true] at c
  · have c := c.1
    cases k <;> first | rfl | cases c
  · have c := c.1
    unfold tKey at c
    cases k with
    | tuple ds =>
      dsimp only at c
      split at c
      · next k e => exact imm_key e
      · cases c
    | _ => cases c
theorem Rep.dic_inv {K : PySem.W.Frag} {w : World} {G : Addr → Prop} {H : Hp} {a : Addr} {kvs : List (D × D)} (t : Top K w G H a (.dict kvs)) : ∃ o, DicF K w G H a o kvs := by
  cases t with
  | dic h e1 e2 r n z s c => exact ⟨_, h, e1, ⟨_, _, e2, r⟩, n, z, s, c⟩
/-- xs[k] = e, d[k] = e -/
def sSetI (i : Nat) (k x : Ex) : Sm := fun ρ => (x.ev ρ).bind fun dv => (k.ev ρ).bind fun kv => (ownA (settle x.lk dv.1 dv.2 ρ) i).bind fun o => (setD o kv.1 dv.1).bind fun d => some (.nx ((settle x.lk dv.1 dv.2 ρ).set i (.own d)))
theorem setD_inv {o k v d : D} (h : setD o k v = some d) : (∃ ds z j, o = .list ds ∧ k = .int z ∧ ixN ds.length z = some j ∧ d = .list (ds.set j v)) ∨ ∃ kvs, o = .dict kvs ∧ kOk kvs k = true ∧ kvs.length < LIM ∧ d = .dict (putD kvs k v) := by
  have dc : ∀ kvs, (if kOk kvs k = true ∧ (scrOf kvs).isNone = true ∧ kvs.length < LIM then some (PyData.dict (putD kvs k v)) else none) = some d → kOk kvs k = true ∧ kvs.length < LIM ∧ d = .dict (putD kvs k v) := fun kvs e => by
    split at e
    · next c => cases e; exact ⟨c.1, c.2.2, rfl⟩
    · cases e
  cases o with
  | list ds =>
    cases k with
    | int z =>
      obtain ⟨j, e1, e2⟩ := Option.map_eq_some_iff.mp h
      exact .inl ⟨ds, z, j, rfl, rfl, e1, e2.symm⟩
    | _ => cases h
  | dict kvs =>
    have := dc kvs (by cases k <;> exact h)
    exact .inr ⟨kvs, rfl, this⟩
  | _ => cases h
def rSetA (K : PySem.W.Frag) (w : World) : V → V → V → Hp → (Hp → Prop) → Prop := fun o i v H Q => rSetL o i v H Q ∨ rSetX K w o i v H Q
theorem ss_setG {i : Nat} {ke : Expr} {k : Ex} (hs : ∀ te tk, PE X e te → PE X ke tk → PS X st (tAsg te (gSub (tVar i) tk (rSetA X.K X.w)))) (he : SE X A0 H0 e x) (hk : SE X A0 H0 ke k) : SS X A0 H0 st (sSetI i k x) := by
  refine ⟨psI (hs _ _ he.pe hk.pe) fun E σ H ⟨oa, ρ, o, En, ev, P⟩ => ?_⟩
  obtain ⟨⟨d, fr⟩, e1, ev⟩ := Option.bind_eq_some_iff.mp ev
  obtain ⟨⟨z, frk⟩, ek, ev⟩ := Option.bind_eq_some_iff.mp ev
  obtain ⟨od, e2, ev⟩ := Option.bind_eq_some_iff.mp ev
  obtain ⟨nd, e3, ev⟩ := Option.bind_eq_some_iff.mp ev
  cases ev
  have eo := ownA_eq e2
  refine ⟨oa, ρ, d, fr, En, e1, fun v H1 s1 r1 => ?_⟩
  obtain ⟨oa', E', F', r'⟩ := En.settled s1 r1
  obtain ⟨a', ea'⟩ := E'.has i _ eo
  obtain ⟨h0', d2, e5, e6, t'⟩ := E'.own i a' ea'
  rw [eo] at e5
  cases e5
  refine ⟨_, e6, oa, ρ, _, frk, En.ext s1, ek, fun u H2 s2 r2 => ?_⟩
  rcases setD_inv e3 with ⟨ds, z, j, rfl, hz, ej, rfl⟩ | ⟨kvs, rfl, ko, hl, rfl⟩
  · dsimp only at hz
    subst hz
    cases t' with
    | lst ha' ra' =>
      have q := s2 _ _ ha'
      have ra2 := ra'.same s2
      refine .inl ⟨a', _, z, j, rfl, r2.rep.int_inv, q, by rw [ra'.length]; exact ej, ?_⟩
      obtain ⟨E2, F2⟩ := (E'.ext s2).store (H1 := H2) (d := .list (ds.set j d)) (o := .lst (_)) ea' True.intro (.lst upd_same ((RepL.set (r'.same s2) j ra2).keep ⟨fun b xs h => by rw [upd_ne (ne_of h q fun z => nomatch z)]; exact h, fun b ob u h => by rw [upd_ne (ne_of h q fun z => nomatch z)]; exact h, fun b ob g h => by
        have n : b ≠ a' := fun z => by subst z; exact nomatch g.2 i ea'
        rw [upd_ne n]; exact h, fun b g _ => g⟩))
      exact P oa' σ _ E2 ((F'.trans (.same s2 fun i b e => .inl ⟨i, e⟩)).trans F2)
  · have t2 := t'.keep (.same s2 fun _ g _ => g) fun o h => s2 _ _ h
    obtain ⟨ob, f⟩ := Rep.dic_inv t2
    refine .inr ⟨Gd A0 H0 oa' [], Gd A0 H0 oa' [], a', ob, kvs, _, d, rfl, f, fun b g z => ?_, ko, r2.rep.imm _ (imm_kOk ko), r'.same s2, hl, fun o' tn => ?_⟩
    · subst z; exact nomatch g.2 i ea'
    · obtain ⟨E2, F2⟩ := (E'.ext s2).store (H1 := H2) (d := .dict (putD kvs _ d)) (o := isO a' o') ea' True.intro tn
      exact P oa' σ _ E2 ((F'.trans (.same s2 fun i b e => .inl ⟨i, e⟩)).trans F2)
end
end Wd
set_option maxRecDepth 100000
set_option maxHeartbeats 2000000
/-! Turned lists, lists and tuples of ranges. -/
namespace Wd
open PySem PySem.Spec L2
section
variable {X : Cx} {A0 : Addr → Prop} {H0 : Hp} {pos p : Pos} {a b e : Expr} {xa xb x : Ex}
/-- xs[::-1] -/
def dRev : D → Option (D × Bool)
  | .list xs => some (.list xs.reverse, true)
  | _ => none
@[simp] def xRev (a : Ex) : Ex := x1 dRev a.il a
def rRevL (K : PySem.W.Frag) (x : V) (H : Hp) (Q : VK) : Prop := ∃ a xs, x = .ref a ∧ SqL K H a xs ∧ ∀ p, H p = none → Q (.ref p) (upd H p (.lst xs.reverse))
theorem r1_rev {K : PySem.W.Frag} {w : World} : R1ok K w dRev (rRevL K) := by
  intro G x d fr u H Q e r k
  unfold dRev at e
  split at e
  · cases e
    obtain ⟨a, us, rfl, ha, ra⟩ := r.lst_inv
    refine ⟨a, us, rfl, SqL.of ha, fun p hp => ?_⟩
    have s := same_new (o := .lst us.reverse) hp
    have t : Top K w (fun b => G b ∧ H b ≠ none) (upd H p (.lst us.reverse)) p (.list _) := .lst upd_same (ra.reverse.keep (.same s fun b g n => ⟨g, n⟩))
    exact k _ _ s ⟨t.rep (.inr ⟨rfl, hp⟩) fun b g => .inl g.1, fun _ => ⟨p, rfl, hp, t⟩⟩
  · cases e
theorem se_rev {k : Nat} {p1 p2 p3 : Pos} (ha : SE X A0 H0 a xa) : SE X A0 H0 (.Subscript a (.Slice none none (some (.UnaryOp .USub (.Constant (.int 1) k p1) p2)) p3) pos) (xRev xa) :=
  se_1 (fun t pa => pe_revL pa) r1_rev ha
/-- the ints of a range as a list, a tuple -/
theorem rgV_rep {K : PySem.W.Frag} {w : World} {G : Addr → Prop} {H : Hp} {lo hi : Int} : RepL K w G H (rgV lo hi) (rangeD lo hi) := by
  unfold rgV rangeD
  induction List.range (hi - lo).toNat with
  | nil => exact .nil
  | cons k r ih => exact .cons (.int _) ih
theorem rgOk_of {lo hi : Int} (h1 : rgOk lo = true) (h2 : rgOk hi = true) (h3 : (hi - lo).toNat ≤ LIM) : RgOk lo hi := by
  unfold rgOk at h1 h2
  rw [Bool.and_eq_true] at h1 h2
  have a1 := of_decide_eq_true h1.1
  have a2 := of_decide_eq_true h1.2
  have a3 := of_decide_eq_true h2.1
  have a4 := of_decide_eq_true h2.2
  have h3 : (hi - lo).toNat ≤ 10000000 := h3
  exact ⟨by omega, by omega, by omega, by omega, by omega⟩
def xLstR (x y : Ex) : Ex := ⟨fun ρ => (x.ev ρ).bind fun dv => (y.ev ρ).bind fun du => match dv.1, du.1 with
  | .int lo, .int hi => if (rgOk lo && rgOk hi && decide ((hi - lo).toNat ≤ LIM)) = true then some (.list (rangeD lo hi), true) else none
  | _, _ => none, [], []⟩
def xTupR (x y : Ex) : Ex := ⟨fun ρ => (x.ev ρ).bind fun dv => (y.ev ρ).bind fun du => match dv.1, du.1 with
  | .int lo, .int hi => if (rgOk lo && rgOk hi && decide ((hi - lo).toNat ≤ LIM)) = true then some (.tuple (rangeD lo hi), false) else none
  | _, _ => none, [], []⟩
theorem lstR_fin {K : PySem.W.Frag} {w : World} {oa : Ow} {H H1 : Hp} {σ : L2.St} {ρ : Rho} {lo hi : Int} {q : Addr} (E : EnvOk K w A0 H0 oa H1 σ ρ) (s : Same H H1) (hq : H1 q = none) : ResX K w A0 H0 oa [] [] H (upd H1 q (.lst (rgV lo hi))) (.ref q) (.list (rangeD lo hi)) true := gd_top E s hq rgV_rep
theorem se_lstR2 (hr : ∀ ta tb, PE X a ta → PE X b tb → PE X e (tLstRg (tRg2 ta tb))) (ha : SE X A0 H0 a xa) (hb : SE X A0 H0 b xb) : SE X A0 H0 e (xLstR xa xb) := by
  refine ⟨peI (hr _ _ ha.pe hb.pe) fun σ H Q ⟨oa, ρ, d, fr, E, ev, k⟩ => ?_⟩
  obtain ⟨⟨x, fx⟩, ex, ev⟩ := Option.bind_eq_some_iff.mp ev
  obtain ⟨⟨y, fy⟩, ey, ev⟩ := Option.bind_eq_some_iff.mp ev
  dsimp only at ev
  split at ev
  · next _ _ lo hi _ =>
    split at ev
    · next hh =>
      cases ev
      rw [Bool.and_eq_true, Bool.and_eq_true] at hh
      refine ⟨oa, ρ, _, fx, E, ex, fun u H1 s1 r1 => ⟨oa, ρ, _, fy, E.ext s1, ey, fun v H2 s2 r2 => ⟨_, _, r1.rep.int_inv, r2.rep.int_inv, rgOk_of hh.1.1 hh.1.2 (of_decide_eq_true hh.2), fun q hq => ?_⟩⟩⟩
      exact k _ _ ((s1.trans s2).trans (same_new hq)) (lstR_fin (E.ext (s1.trans s2)) (s1.trans s2) hq)
    · cases ev
  · cases ev
theorem se_tupR2 (hr : ∀ ta tb, PE X a ta → PE X b tb → PE X e (tTupRg (tRg2 ta tb))) (ha : SE X A0 H0 a xa) (hb : SE X A0 H0 b xb) : SE X A0 H0 e (xTupR xa xb) := by
  refine ⟨peI (hr _ _ ha.pe hb.pe) fun σ H Q ⟨oa, ρ, d, fr, E, ev, k⟩ => ?_⟩
  obtain ⟨⟨x, fx⟩, ex, ev⟩ := Option.bind_eq_some_iff.mp ev
  obtain ⟨⟨y, fy⟩, ey, ev⟩ := Option.bind_eq_some_iff.mp ev
  dsimp only at ev
  split at ev
  · next _ _ lo hi _ =>
    split at ev
    · next hh =>
      cases ev
      rw [Bool.and_eq_true, Bool.and_eq_true] at hh
      refine ⟨oa, ρ, _, fx, E, ex, fun u H1 s1 r1 => ⟨oa, ρ, _, fy, E.ext s1, ey, fun v H2 s2 r2 => ⟨_, _, r1.rep.int_inv, r2.rep.int_inv, rgOk_of hh.1.1 hh.1.2 (of_decide_eq_true hh.2), fun q hq => ?_⟩⟩⟩
      exact k _ _ ((s1.trans s2).trans (same_new hq)) (.of (.tup (SqT.of upd_same) rgV_rep))
    · cases ev
  · cases ev
theorem se_lstR1 (hr : ∀ tb, PE X b tb → PE X e (tLstRg (tRg1 tb))) (hb : SE X A0 H0 b xb) : SE X A0 H0 e (xLstR (xC (.int 0)) xb) := by
  refine ⟨peI (hr _ hb.pe) fun σ H Q ⟨oa, ρ, d, fr, E, ev, k⟩ => ?_⟩
  obtain ⟨⟨y, fy⟩, ey, ev⟩ := Option.bind_eq_some_iff.mp ev
  dsimp only at ev
  split at ev
  · next _ _ lo hi e0 =>
    injection e0 with e0
    subst e0
    split at ev
    · next hh =>
      cases ev
      rw [Bool.and_eq_true, Bool.and_eq_true] at hh
      refine ⟨oa, ρ, _, fy, E, ey, fun v H2 s2 r2 => ⟨_, r2.rep.int_inv, rgOk_of hh.1.1 hh.1.2 (of_decide_eq_true hh.2), fun q hq => ?_⟩⟩
      exact k _ _ (s2.trans (same_new hq)) (lstR_fin (E.ext s2) s2 hq)
    · cases ev
  · cases ev
theorem se_tupR1 (hr : ∀ tb, PE X b tb → PE X e (tTupRg (tRg1 tb))) (hb : SE X A0 H0 b xb) : SE X A0 H0 e (xTupR (xC (.int 0)) xb) := by
  refine ⟨peI (hr _ hb.pe) fun σ H Q ⟨oa, ρ, d, fr, E, ev, k⟩ => ?_⟩
  obtain ⟨⟨y, fy⟩, ey, ev⟩ := Option.bind_eq_some_iff.mp ev
  dsimp only at ev
  split at ev
  · next _ _ lo hi e0 =>
    injection e0 with e0
    subst e0
    split at ev
    · next hh =>
      cases ev
      rw [Bool.and_eq_true, Bool.and_eq_true] at hh
      refine ⟨oa, ρ, _, fy, E, ey, fun v H2 s2 r2 => ⟨_, r2.rep.int_inv, rgOk_of hh.1.1 hh.1.2 (of_decide_eq_true hh.2), fun q hq => ?_⟩⟩
      exact k _ _ (s2.trans (same_new hq)) (.of (.tup (SqT.of upd_same) rgV_rep))
    · cases ev
  · cases ev
end
end Wd
set_option maxRecDepth 100000
set_option maxHeartbeats 2000000
/-! Comprehensions with two fors. -/
namespace Wd
open PySem PySem.Spec L2
def lcR2 (tg : D → Rho → Option Rho) (tt : Rho → Option Bool) (s1 : Src) (vs1 : List Nat) (tg1 : D → Rho → Option Rho) (tt1 : Rho → Option Bool) (el : Rho → Option (D × Bool)) (ρ : Rho) : List D → Option (List D)
  | [] => some []
  | d :: ds => (tg d ρ).bind fun ρ1 => (tt ρ1).bind fun b => if b = true then (s1.ev ρ1).bind fun q => (lcR tg1 tt1 el (wipeR q.2 vs1) q.1).bind fun r1 => (lcR2 tg tt s1 vs1 tg1 tt1 el ρ ds).bind fun r => some (r1 ++ r) else lcR2 tg tt s1 vs1 tg1 tt1 el ρ ds
def xLc2 (vs : List Nat) (tg : D → Rho → Option Rho) (c : Option Ex) (s : Src) (vs1 : List Nat) (tg1 : D → Rho → Option Rho) (c1 : Option Ex) (s1 : Src) (x : Ex) : Ex := ⟨fun ρ => (s.ev ρ).bind fun q => (lcR2 tg (ttR c) s1 vs1 tg1 (ttR c1) x.ev (wipeR q.2 vs) q.1).bind fun r => if r.length < LIM then some (.list r, true) else none, s.lk ++ vs ++ (s1.lk ++ x.lk), s.lk ++ vs ++ (s1.lk ++ x.lk)⟩
theorem w_it {J : It} {n : Nat} {G : Hp → Prop} {Y : Nat → Hp → V → Hp → Prop} (w : L2.Walk J n G Y) {H1 : Hp} {Qd : Hp → Prop} (Pv : Nat → Hp → Prop) (h0 : Pv 0 H1) (hG : ∀ i H, i ≤ n → Pv i H → G H) (Body : V → Hp → (Hp → Prop) → Prop)
    (hs : ∀ i x H H', i < n → Pv i H → Y i H x H' → Body x H' (Pv (i + 1))) (hd : ∀ H, Pv n H → Qd H) :
    ∃ W : Nat → Nat → Hp → Prop, (∃ m, W 0 m H1) ∧ ∀ i m H, W i m H → (J.stop i H ∧ Qd H) ∨ (J.go i H ∧ ∃ Nx : Hp → Prop, (∀ H', Nx H' → ∃ m', m' < m ∧ W (i + 1) m' H') ∧ ∀ x H', J.yld i H x H' → Body x H' Nx) := by
  refine ⟨fun i m H => m = n - i ∧ i ≤ n ∧ Pv i H, ⟨n, by simp, Nat.zero_le _, h0⟩, ?_⟩
  rintro i m H ⟨rfl, hi, p⟩
  have q := hG i H hi p
  by_cases hlt : i < n
  · exact .inr ⟨w.goes i H hlt q, Pv (i + 1), fun H' p' => ⟨n - (i + 1), by omega, rfl, hlt, p'⟩, fun x H' y => hs i x H H' hlt p (w.yields i H x H' hlt q y)⟩
  · have e : i = n := by omega
    subst e
    exact .inl ⟨w.stops H q, hd H p⟩
def siE (K : PySem.W.Frag) (w : World) (H0 : Hp) (s : Src) : TI := fun σ H R => ∃ A0, tSrc K w A0 H0 s σ H R
section
variable {g g1 : TG} {tg tg1 : D → Rho → Option Rho} {vs ts vs1 ts1 : List Nat} {xt xt1 : Option Ex} {s s1 : Src} {x : Ex} {A0 : Addr → Prop} {H0 : Hp}
theorem lc2_sem {K : PySem.W.Frag} {w : World} {σ : L2.St} {H : Hp} {Q : VK} (hg : ∀ A0, SGok K w A0 H0 g tg ts) (hts : ∀ j ∈ ts, j ∈ vs) (hg1 : ∀ A0, SGok K w A0 H0 g1 tg1 ts1) (hts1 : ∀ j ∈ ts1, j ∈ vs1) (hvs : ∀ j ∈ vs1, j ∈ vs) (h : tX K w A0 H0 (xLc2 vs tg xt s vs1 tg1 xt1 s1 x) σ H Q) :
    tLc2 (tSrc K w A0 H0 s) g (ttE K w H0 xt) (siE K w H0 s1) g1 (ttE K w H0 xt1) (teE K w H0 x) vs vs1 σ H Q := by
  obtain ⟨oa, ρ, d, fr, E, ev, k⟩ := h
  obtain ⟨⟨ds, ρ'⟩, e1, ev⟩ := Option.bind_eq_some_iff.mp ev
  obtain ⟨r, e2, ev⟩ := Option.bind_eq_some_iff.mp ev
  dsimp only at e2
  split at ev
  · next hlen =>
    cases ev
    refine ⟨oa, ρ, ds, ρ', E, e1, fun J H1 oa1 s1' E1 z1 m1 hwk D₁ hD => ?_⟩
    obtain ⟨G, Y, hW, hG, hY⟩ := hwk.ex
    obtain ⟨oa2, E2, z2, m2⟩ := E1.wipe vs
    have hD0 : H0 D₁ = none := E1.same.free hD
    have sD := same_new (o := .lst []) hD
    let LK : List Nat := vs ++ (s1.lk ++ x.lk)
    let GL : Addr → Prop := Gd (fun b => A0 b ∧ b ≠ D₁) H0 oa2 LK
    let Pv : Nat → Hp → Prop := fun i H' => ∃ us ys r', H' D₁ = some (.lst us) ∧ RepL K w GL H' us ys ∧ lcR2 tg (ttR xt) s1 vs1 tg1 (ttR xt1) x.ev (wipeR ρ' vs) (ds.drop i) = some r' ∧ r = ys ++ r' ∧
      EnvOk K w (fun b => A0 b ∧ b ≠ D₁) H0 oa2 H' (L2.wipe σ vs) (wipeR ρ' vs) ∧ (∀ b o, H1 b = some o → H' b = some o)
    have hGk : ∀ i H', Pv i H' → Kp K (Gd A0 H0 oa1 []) (Gd (fun b => A0 b ∧ b ≠ D₁) H0 oa1 []) H1 H' := fun i H' ⟨us, ys, r', hu, _, _, _, E', sH⟩ => .same sH fun b g n => ⟨⟨g.1, fun z => n (by rw [z]; exact hD)⟩, g.2⟩
    have kpu : ∀ {H4 : Hp} {us vs' : List V}, H4 D₁ = some (.lst us) → Kp K GL GL H4 (upd H4 D₁ (.lst vs')) := fun hD4 => ⟨fun b zs h => by rw [upd_ne (ne_of h hD4 fun z => nomatch z)]; exact h, fun b o u h => by rw [upd_ne (ne_of h hD4 fun z => nomatch z)]; exact h, fun b o g h => by rw [upd_ne g.1.2]; exact h, fun b g _ => g⟩
    refine w_it hW Pv ⟨[], [], r, upd_same, .nil, e2, rfl, E2.apart hD sD (by rw [upd_same]; exact fun z => nomatch z), fun b o h => sD _ _ h⟩ (fun i H' _ p => hG _ H' (hGk i H' p)) _ (fun i v H' H'' hi p y => ?_) (fun H' p => ?_)
    · have hk := hGk i H' p
      obtain ⟨us, ys, r', hu, ru, el, er, E', sH⟩ := p
      have ed : ds[i]? = some ds[i] := List.getElem?_eq_getElem hi
      have gnew : ∀ b, H' b = none → Gd (fun b => A0 b ∧ b ≠ D₁) H0 oa1 [] b := fun b n => by
        have hb : H1 b = none := by
          cases q : H1 b with
          | none => rfl
          | some o => rw [sH b o q] at n; cases n
        refine ⟨⟨E1.new b hb, fun z => by rw [z, hu] at n; cases n⟩, fun j e => ?_⟩
        exact absurd hb (fun q => by
          obtain ⟨_, _, _, _, t⟩ := E1.own j b e
          obtain ⟨o, ho, _⟩ := t.there
          rw [q] at ho; cases ho)
      obtain ⟨s2, r2⟩ := hY _ H' i ds[i] v H'' hk gnew ed y
      have r2' : Rep K w (Gd (fun b => A0 b ∧ b ≠ D₁) H0 oa2 []) H'' v ds[i] := r2.keep (.refl fun b g _ => ⟨g.1, fun j e => g.2 j (z2 j b e)⟩)
      rw [List.drop_eq_getElem_cons hi] at el
      unfold lcR2 at el
      obtain ⟨ρ1, q1, el⟩ := Option.bind_eq_some_iff.mp el
      obtain ⟨bb, q2, el⟩ := Option.bind_eq_some_iff.mp el
      have E'' := E'.ext s2
      refine hg (fun b => A0 b ∧ b ≠ D₁) oa2 _ ρ1 (L2.wipe σ vs) H'' v ds[i] _ E'' r2' q1 fun oa3 σ3 E3 z3 w3 => ⟨?_, fun b => A0 b ∧ b ≠ D₁, oa3, ρ1, bb, E3, q2, fun H3 s3 => ?_⟩
      · have z := wipe_of (vs := vs) w3.1 fun j n => w3.2.1 j fun m => n (hts j m)
        rw [z]
        exact wipe_of (wipe_length σ vs) fun j n => L2.wipe_out n
      cases bb with
      | false =>
        refine iteF ⟨us, ys, r', ?_, ru.same (s2.trans s3), el, er, E''.ext s3, fun b o h => s3 _ _ (s2 _ _ (sH b o h))⟩
        exact s3 _ _ (s2 _ _ hu)
      | true =>
        rw [if_pos rfl] at el
        obtain ⟨⟨ds1, ρ1'⟩, q3, el⟩ := Option.bind_eq_some_iff.mp el
        obtain ⟨ra, q4, el⟩ := Option.bind_eq_some_iff.mp el
        obtain ⟨rb, q5, el⟩ := Option.bind_eq_some_iff.mp el
        cases el
        dsimp only at q4
        refine iteT ⟨fun b => A0 b ∧ b ≠ D₁, oa3, ρ1, ds1, ρ1', E3.ext s3, q3, fun J1 H4 oa4 s4 E4 z4 m4 hwk1 => ?_⟩
        obtain ⟨G1, Y1, hW1, hG1, hY1⟩ := hwk1.ex
        obtain ⟨oa5, E5, z5, m5⟩ := E4.wipe vs1
        have s24 := s2.trans (s3.trans s4)
        have hD4 : H4 D₁ = some (.lst us) := s24 _ _ hu
        let Pv1 : Nat → Hp → Prop := fun j H' => ∃ us ys r', H' D₁ = some (.lst us) ∧ RepL K w GL H' us ys ∧ lcR tg1 (ttR xt1) x.ev (wipeR ρ1' vs1) (ds1.drop j) = some r' ∧ r = ys ++ (r' ++ rb) ∧
          EnvOk K w (fun b => A0 b ∧ b ≠ D₁) H0 oa5 H' (L2.wipe σ3 vs1) (wipeR ρ1' vs1) ∧ EnvOk K w (fun b => A0 b ∧ b ≠ D₁) H0 oa2 H' (L2.wipe σ vs) (wipeR ρ' vs) ∧ (∀ b o, H1 b = some o → H' b = some o) ∧ (∀ b o, b ≠ D₁ → H4 b = some o → H' b = some o)
        have hGk1 : ∀ j H', Pv1 j H' → Kp K (Gd (fun b => A0 b ∧ b ≠ D₁) H0 oa4 []) (Gd (fun b => A0 b ∧ b ≠ D₁) H0 oa4 []) H4 H' := fun j H' ⟨us', ys', r', hu', _, _, _, _, _, _, sH4⟩ =>
          ⟨fun b xs h => sH4 b _ (ne_of h hD4 fun z => nomatch z) h, fun b o u h => sH4 b _ (ne_of h hD4 fun z => nomatch z) h, fun b o g h => sH4 b o g.1.2 h, fun b g _ => g⟩
        refine w_it hW1 Pv1 ⟨us, ys, ra, hD4, ru.same s24, q4, er, E5, E''.ext (s3.trans s4), fun b o h => s24 _ _ (sH b o h), fun b o _ h => h⟩ (fun j H' _ p => hG1 _ H' (hGk1 j H' p)) _ (fun j v1 H5 H6 hj p1 y1 => ?_) (fun H5 p1 => ?_)
        · have hk1 := hGk1 j H5 p1
          obtain ⟨us1, ys1, r1', hu1, ru1, el1, er1, E6, E7, sH1, sH4⟩ := p1
          have ed1 : ds1[j]? = some ds1[j] := List.getElem?_eq_getElem hj
          have gnew1 : ∀ b, H5 b = none → Gd (fun b => A0 b ∧ b ≠ D₁) H0 oa4 [] b := fun b n => by
            have nb : b ≠ D₁ := fun z => by rw [z, hu1] at n; cases n
            have hb : H4 b = none := by
              cases q : H4 b with
              | none => rfl
              | some o => rw [sH4 b o nb q] at n; cases n
            refine ⟨E4.new b hb, fun j e => ?_⟩
            exact absurd hb (fun q => by
              obtain ⟨_, _, _, _, t⟩ := E4.own j b e
              obtain ⟨o, ho, _⟩ := t.there
              rw [q] at ho; cases ho)
          obtain ⟨t2, u2⟩ := hY1 _ H5 j ds1[j] v1 H6 hk1 gnew1 ed1 y1
          have u2' : Rep K w (Gd (fun b => A0 b ∧ b ≠ D₁) H0 oa5 []) H6 v1 ds1[j] := u2.keep (.refl fun b g _ => ⟨g.1, fun j e => g.2 j (z5 j b e)⟩)
          rw [List.drop_eq_getElem_cons hj] at el1
          unfold lcR at el1
          obtain ⟨ρ2, p1, el1⟩ := Option.bind_eq_some_iff.mp el1
          obtain ⟨cc, p2, el1⟩ := Option.bind_eq_some_iff.mp el1
          have E6' := E6.ext t2
          refine hg1 (fun b => A0 b ∧ b ≠ D₁) oa5 _ ρ2 (L2.wipe σ3 vs1) H6 v1 ds1[j] _ E6' u2' p1 fun oa6 σ6 E8 z6 w6 => ⟨?_, fun b => A0 b ∧ b ≠ D₁, oa6, ρ2, cc, E8, p2, fun H7 s7 => ?_⟩
          · have z := wipe_of (vs := vs1) w6.1 fun j n => w6.2.1 j fun m => n (hts1 j m)
            rw [z]
            exact wipe_of (wipe_length σ3 vs1) fun j n => L2.wipe_out n
          cases cc with
          | false =>
            refine iteF ⟨us1, ys1, r1', s7 _ _ (t2 _ _ hu1), ru1.same (t2.trans s7), el1, er1, E6'.ext s7, E7.ext (t2.trans s7), fun b o h => s7 _ _ (t2 _ _ (sH1 b o h)), fun b o n h => s7 _ _ (t2 _ _ (sH4 b o n h))⟩
          | true =>
            rw [if_pos rfl] at el1
            obtain ⟨⟨yd, fy⟩, p3, el1⟩ := Option.bind_eq_some_iff.mp el1
            obtain ⟨r2, p4, el1⟩ := Option.bind_eq_some_iff.mp el1
            cases el1
            refine iteT ⟨_, oa6, ρ2, yd, fy, E8.ext s7, p3, fun yv H8 s8 ry => ⟨us1, s8 _ _ (s7 _ _ (t2 _ _ hu1)), ?_, ?_⟩⟩
            · refine lim_lt ?_
              rw [ru1.length]
              rw [er1] at hlen
              simp only [List.length_append, List.length_cons] at hlen
              omega
            have s28 := t2.trans (s7.trans s8)
            have hD8 : H8 D₁ = some (.lst us1) := s28 _ _ hu1
            refine ⟨us1 ++ [yv], ys1 ++ [yd], r2, upd_same, ?_, p4, by rw [er1]; simp, (E6'.ext (s7.trans s8)).other hD8 hD0, (E7.ext s28).other hD8 hD0, fun b o h => ?_, fun b o n h => ?_⟩
            · refine ((ru1.same s28).append (.one (ry.rep.keep (.refl fun b g _ => ⟨g.1, fun j e => ?_⟩)))).keep (kpu hD8)
              -- whose owned objects the item may hold
              rcases w3.2.2 j b e with e3 | e3
              · rcases m4 j b e3 with e4 | e4
                · rcases m5 j b e4 with e5 | e5
                  · rcases w6.2.2 j b e5 with e6 | e6
                    · exact List.mem_append_right _ (List.mem_append_right _ (g.2 j e6))
                    · exact List.mem_append_left _ (hvs j (hts1 j e6))
                  · exact List.mem_append_left _ (hvs j e5)
                · exact List.mem_append_right _ (List.mem_append_left _ e4)
              · exact List.mem_append_left _ (hts j e3)
            · rw [upd_ne fun z => by subst z; rw [hD] at h; cases h]
              exact s28 _ _ (sH1 b o h)
            · rw [upd_ne n]
              exact s28 _ _ (sH4 b o n h)
        · obtain ⟨us1, ys1, r1', hu1, ru1, el1, er1, E6, E7, sH1, sH4⟩ := p1
          rw [List.drop_length] at el1
          cases el1
          exact ⟨us1, ys1, rb, hu1, ru1, q5, by rw [er1]; rfl, E7, sH1⟩
    · obtain ⟨us, ys, r', hu, ru, el, er, E', sH⟩ := p
      rw [List.drop_length] at el
      cases el
      rw [List.append_nil] at er
      subst er
      have gg : ∀ b, GL b → Gd A0 H0 oa (s.lk ++ vs ++ (s1.lk ++ x.lk)) b := fun b g => ⟨g.1.1, fun j e => by
        rcases m1 j b e with q | q
        · rcases m2 j b q with q | q
          · rcases List.mem_append.mp (g.2 j q) with q | q
            · exact List.mem_append_left _ (List.mem_append_right _ q)
            · exact List.mem_append_right _ q
          · exact List.mem_append_left _ (List.mem_append_right _ q)
        · exact List.mem_append_left _ (List.mem_append_left _ q)⟩
      have tp : Top K w (fun b => Gd A0 H0 oa (s.lk ++ vs ++ (s1.lk ++ x.lk)) b ∧ b ≠ D₁) H' D₁ (.list r) := .lst hu (ru.keep (.refl fun b g _ => ⟨gg b g, g.1.2⟩))
      have gD : Gd A0 H0 oa (s.lk ++ vs ++ (s1.lk ++ x.lk)) D₁ := gd_new E (s1'.free hD)
      have rr : Rep K w (Gd A0 H0 oa (s.lk ++ vs ++ (s1.lk ++ x.lk))) H' (.ref D₁) (.list r) := tp.rep gD fun b g => g.1
      exact k _ H' (s1'.trans sH) ⟨rr, .inl rr, fun _ => ⟨D₁, rfl, s1'.free hD, tp⟩⟩
  · cases ev
theorem psi {X : Cx} {t e : Expr} {s : Src} (h : ∀ A0, SI X A0 H0 t e s) : PI X t e (siE X.K X.w H0 s) := ⟨fun pins s1 σ H1 Q I ⟨A1, q⟩ => (h A1).pi.run pins s1 σ H1 Q I q⟩
variable {X : Cx} {t t1 iter iter1 elt : Expr} {ifs ifs1 : List Expr} {scope : Scope} {pos : Pos}
theorem se_lc2 (own : List (Str × Nat)) (hc : X.calm = true) (hN : X.N.Nodup) (ok : BlkOk X.N X.env.scope scope own) (hi : SI X A0 H0 t iter s)
    (hg : ∀ (s : Shared) (H : Hp) (C : Addr) (cl : List (Str × Addr)) (fp : List Addr), PG (X.blk s H scope (PySem.compEnvC scope cl C X.env) fp) t g) (hgo : ∀ A0, SGok X.K X.w A0 H0 g tg ts)
    (ht : ∀ (s : Shared) (H : Hp) (C : Addr) (cl : List (Str × Addr)) (fp : List Addr) A0, SPT (X.blk s H scope (PySem.compEnvC scope cl C X.env) fp) A0 H0 ifs xt)
    (hi1 : ∀ (s : Shared) (H : Hp) (C : Addr) (cl : List (Str × Addr)) (fp : List Addr) A0, SI (X.blk s H scope (PySem.compEnvC scope cl C X.env) fp) A0 H0 t1 iter1 s1)
    (hg1 : ∀ (s : Shared) (H : Hp) (C : Addr) (cl : List (Str × Addr)) (fp : List Addr), PG (X.blk s H scope (PySem.compEnvC scope cl C X.env) fp) t1 g1) (hgo1 : ∀ A0, SGok X.K X.w A0 H0 g1 tg1 ts1)
    (ht1 : ∀ (s : Shared) (H : Hp) (C : Addr) (cl : List (Str × Addr)) (fp : List Addr) A0, SPT (X.blk s H scope (PySem.compEnvC scope cl C X.env) fp) A0 H0 ifs1 xt1)
    (he : ∀ (s : Shared) (H : Hp) (C : Addr) (cl : List (Str × Addr)) (fp : List Addr) A0, SE (X.blk s H scope (PySem.compEnvC scope cl C X.env) fp) A0 H0 elt x)
    (hts : ∀ j ∈ ts, j ∈ own.map (·.2) := by decide) (hts1 : ∀ j ∈ ts1, j ∈ vs1 := by decide) (hv : ∀ j ∈ vs1, j ∈ own.map (·.2) := by decide) (hs : ∀ x, foldedSetIterable iter X.env x = pure x := by intro _; rfl) (hs1 : ∀ env x, foldedSetIterable iter1 env x = pure x := by intro _ _; rfl) :
    SE X A0 H0 (.ListComp elt [⟨t, iter, ifs, 0⟩, ⟨t1, iter1, ifs1, 0⟩] scope pos) (xLc2 (own.map (·.2)) tg xt s vs1 tg1 xt1 s1 x) :=
  ⟨peI (pe_lc2 (own := own) (vs1 := vs1) (g := g) (g1 := g1) (tt := ttE X.K X.w H0 xt) (tt1 := ttE X.K X.w H0 xt1) (wi1 := siE X.K X.w H0 s1) (te := teE X.K X.w H0 x) hc hN hi.pi ok hv hg (fun s H C cl fp => ptt (ht s H C cl fp)) (fun s H C cl fp => psi (hi1 s H C cl fp)) hg1 (fun s H C cl fp => ptt (ht1 s H C cl fp)) (fun s H C cl fp => pte (he s H C cl fp)) hs hs1)
    fun σ H Q h => lc2_sem hgo hts hgo1 hts1 hv h⟩
theorem ss_asgLc2 {i : Nat} {y : Str} {py spos : Pos} (own : List (Str × Nat)) (hc : X.calm = true) (hN : X.N.Nodup) (ok : BlkOk X.N X.env.scope scope own) (hy : X.N[i]? = some y) (hyl : X.env.scope.names.lookup y = some .local)
    (hsw : swapsWith (.ListComp elt [⟨t, iter, ifs, 0⟩, ⟨t1, iter1, ifs1, 0⟩] scope pos) (some (.Name y py)) spos.line X.env = pure true) (hi : SI X A0 H0 t iter s)
    (hg : ∀ (s : Shared) (H : Hp) (C : Addr) (cl : List (Str × Addr)) (fp : List Addr), PG (X.blk s H scope (PySem.compEnvC scope cl C X.env) fp) t g) (hgo : ∀ A0, SGok X.K X.w A0 H0 g tg ts)
    (ht : ∀ (s : Shared) (H : Hp) (C : Addr) (cl : List (Str × Addr)) (fp : List Addr) A0, SPT (X.blk s H scope (PySem.compEnvC scope cl C X.env) fp) A0 H0 ifs xt)
    (hi1 : ∀ (s : Shared) (H : Hp) (C : Addr) (cl : List (Str × Addr)) (fp : List Addr) A0, SI (X.blk s H scope (PySem.compEnvC scope cl C X.env) fp) A0 H0 t1 iter1 s1)
    (hg1 : ∀ (s : Shared) (H : Hp) (C : Addr) (cl : List (Str × Addr)) (fp : List Addr), PG (X.blk s H scope (PySem.compEnvC scope cl C X.env) fp) t1 g1) (hgo1 : ∀ A0, SGok X.K X.w A0 H0 g1 tg1 ts1)
    (ht1 : ∀ (s : Shared) (H : Hp) (C : Addr) (cl : List (Str × Addr)) (fp : List Addr) A0, SPT (X.blk s H scope (PySem.compEnvC scope cl C X.env) fp) A0 H0 ifs1 xt1)
    (he : ∀ (s : Shared) (H : Hp) (C : Addr) (cl : List (Str × Addr)) (fp : List Addr) A0, SE (X.blk s H scope (PySem.compEnvC scope cl C X.env) fp) A0 H0 elt x)
    (hts : ∀ j ∈ ts, j ∈ own.map (·.2) := by decide) (hts1 : ∀ j ∈ ts1, j ∈ vs1 := by decide) (hv : ∀ j ∈ vs1, j ∈ own.map (·.2) := by decide) (hs : ∀ x, foldedSetIterable iter X.env x = pure x := by intro _; rfl) (hs1 : ∀ env x, foldedSetIterable iter1 env x = pure x := by intro _ _; rfl) :
    SS X A0 H0 (.Assign [.Name y py] (.ListComp elt [⟨t, iter, ifs, 0⟩, ⟨t1, iter1, ifs1, 0⟩] scope pos) spos) (sAsg i (xLc2 (own.map (·.2)) tg xt s vs1 tg1 xt1 s1 x)) := by
  refine ⟨psI (ps_setLc2 (own := own) (vs1 := vs1) (g := g) (g1 := g1) (tt := ttE X.K X.w H0 xt) (tt1 := ttE X.K X.w H0 xt1) (wi1 := siE X.K X.w H0 s1) (te := teE X.K X.w H0 x) hc hN hy hyl hsw hi.pi ok hv hg (fun s H C cl fp => ptt (ht s H C cl fp)) (fun s H C cl fp => psi (hi1 s H C cl fp)) hg1 (fun s H C cl fp => ptt (ht1 s H C cl fp)) (fun s H C cl fp => pte (he s H C cl fp)) hs hs1) fun E σ H h => ?_⟩
  exact lc2_sem (Q := fun v H1 => gName i v σ H1 E.nx) hgo hts hgo1 hts1 hv (asg_ok h)
end
end Wd
set_option maxRecDepth 100000
set_option maxHeartbeats 2000000
/-! pop, int of a truth value. -/
namespace Wd
open PySem PySem.Spec L2
section
variable {X : Cx} {A0 : Addr → Prop} {H0 : Hp} {pos p : Pos} {a e : Expr} {xa x : Ex} {st : Stmt}
def dIntB : D → Option D
  | .int i => some (.int i)
  | .bool b => some (.int (if b then 1 else 0))
  | _ => none
@[simp] def xIntT (a : Ex) : Ex := x1 (sc1 dIntB) [] a
theorem s_intB {K : PySem.W.Frag} {w : World} : ∀ (G : Addr → Prop) (x d : D) (u : V) (H : Hp) (Q : VK), dIntB x = some d → RepT K w G H u x → (∀ z, (∀ G' H', Rep K w G' H' z d) → Q z H) → ((∃ i, [u] = [V.int i] ∧ Q (.int i) H) ∨ ∃ k, [u] = [V.bl k] ∧ Q (.int (if k then 1 else 0)) H) := by
  intro G x d u H Q e r k
  unfold dIntB at e
  split at e
  · cases e; cases r.int_inv; exact .inl ⟨_, rfl, k _ fun _ _ => .int _⟩
  · cases e; cases r.bool_inv; exact .inr ⟨_, rfl, k _ fun _ _ => .int _⟩
  · cases e
theorem se_intT (hg : Gl X "int") (hm : X.mg "int" = none) (ha : SE X A0 H0 a xa) (hs : starEach [a] X.env = (false, eval a X.env) :: starEach [] X.env := by rfl) : SE X A0 H0 (.Call (.Name "int" p) [a] [] pos) (xIntT xa) :=
  se_1s (call1 (fun t pa => pe_callTy call_int1 hg hm PyProof.Rows.boot_int pa (he := hs)) hs) s_intB ha
/-- xs.pop() -/
def sPop (i : Nat) : Sm := fun ρ => (ownL ρ i).bind fun ds => if ds ≠ [] then some (.nx (ρ.set i (.own (.list ds.dropLast)))) else none
theorem ss_pop {i : Nat} (hs : PS X st (tDrop (tBM0 X.K "list" rPop (tVar i)))) : SS X A0 H0 st (sPop i) := by
  refine ⟨psI hs fun E σ H ⟨oa, ρ, o, En, ev, P⟩ => ?_⟩
  obtain ⟨ds, e2, ev⟩ := Option.bind_eq_some_iff.mp ev
  split at ev
  · next hl =>
    cases ev
    have eo := ownL_eq e2
    obtain ⟨a, ea⟩ := En.has i _ eo
    obtain ⟨h0, d1, e3, e4, t⟩ := En.own i a ea
    rw [eo] at e3
    cases e3
    cases t with
    | @lst us _ ha ra =>
      have ul : us.length = ds.length := ra.length
      have pos : 0 < us.length := by rw [ul]; exact List.length_pos_iff.mpr hl
      refine ⟨_, e4, tyV_lst ha, a, us, us[us.length - 1]'(by omega), rfl, rfl, ha, List.getElem?_eq_getElem _, ?_⟩
      obtain ⟨E2, F2⟩ := En.store (H1 := H) (d := .list ds.dropLast) (o := .lst us.dropLast) ea True.intro (.lst upd_same (ra.dropLast.keep ⟨fun b xs h => by rw [upd_ne (ne_of h ha fun z => nomatch z)]; exact h, fun b ob u h => by rw [upd_ne (ne_of h ha fun z => nomatch z)]; exact h, fun b ob g h => by
        have n : b ≠ a := fun z => by subst z; exact nomatch g.2 i ea
        rw [upd_ne n]; exact h, fun b g _ => g⟩))
      exact P oa σ _ E2 F2
  · cases ev
end
end Wd
set_option maxRecDepth 100000
set_option maxHeartbeats 2000000
/-! Evaluation by simp. -/
namespace Wd
open PySem PySem.Spec L2
section
variable {ρ : Rho} {a b c : Ex} {d : D} {i : Nat} {m r : Sm} {x : Ex}
@[simp] theorem getR_v0 : getR (.val d :: ρ) 0 = some d := rfl
@[simp] theorem getR_o0 : getR (.own d :: ρ) 0 = some d := rfl
@[simp] theorem getR_s {q : C} : getR (q :: ρ) (i + 1) = getR ρ i := rfl
@[simp] theorem demote_v0 : demote (.val d :: ρ) 0 = .val d :: ρ := rfl
@[simp] theorem demote_u0 : demote (.un :: ρ) 0 = .un :: ρ := rfl
@[simp] theorem demote_o0 : demote (.own d :: ρ) 0 = .val d :: ρ := rfl
@[simp] theorem demote_s {q : C} : demote (q :: ρ) (i + 1) = q :: demote ρ i := by
  unfold demote
  simp only [List.getElem?_cons_succ]
  cases h : ρ[i]? with
  | none => rfl
  | some y => cases y <;> rfl
@[simp] theorem unown_nil : unown [] ρ = ρ := rfl
@[simp] theorem unown_cons {l : List Nat} : unown (i :: l) ρ = unown l (demote ρ i) := rfl
@[simp] theorem settle_nil {fr : Bool} : settle [] d fr ρ = ρ := rfl
theorem settle_cons {fr : Bool} {l : List Nat} : settle (i :: l) d fr ρ = if (imm d || (fr && immTop d)) = true then ρ else unown (i :: l) ρ := rfl
@[simp] theorem settle_int {fr : Bool} {l : List Nat} {z : Int} : settle l (.int z) fr ρ = ρ := by cases l <;> rfl
@[simp] theorem settle_bool {fr : Bool} {l : List Nat} {z : Bool} : settle l (.bool z) fr ρ = ρ := by cases l <;> rfl
@[simp] theorem settle_str {fr : Bool} {l : List Nat} {z : Str} : settle l (.str z) fr ρ = ρ := by cases l <;> rfl
@[simp] theorem settle_none {fr : Bool} {l : List Nat} : settle l .none fr ρ = ρ := by cases l <;> rfl
theorem settle_imm {fr : Bool} {l : List Nat} (h : imm d = true) : settle l d fr ρ = ρ := by
  cases l with
  | nil => rfl
  | cons i l => rw [settle_cons, if_pos (by rw [h]; rfl)]
theorem settle_immT {l : List Nat} (h : immTop d = true) : settle l d true ρ = ρ := by
  cases l with
  | nil => rfl
  | cons i l => rw [settle_cons, if_pos (by rw [h]; simp)]
@[simp] theorem bindR_f {l : List Nat} : bindR l i d false ρ = (settle l d false ρ).set i (.val d) := rfl
@[simp] theorem bindR_t {l : List Nat} : bindR l i d true ρ = (settle l d true ρ).set i (.own d) := rfl
-- expressions
@[simp] theorem xVar_ev : (xVar i).ev ρ = (getR ρ i).map fun d => (d, false) := rfl
@[simp] theorem xVar_lk : (xVar i).lk = [i] := rfl
@[simp] theorem xVar_il : (xVar i).il = [] := rfl
@[simp] theorem xC_ev : (xC d).ev ρ = some (d, false) := rfl
@[simp] theorem xC_lk : (xC d).lk = [] := rfl
@[simp] theorem xC_il : (xC d).il = [] := rfl
@[simp] theorem sc_ap {f : D → D → Option D} {x y : D} : sc f x y = (f x y).map fun d => (d, false) := rfl
@[simp] theorem sc1_ap {f : D → Option D} {x : D} : sc1 f x = (f x).map fun d => (d, false) := rfl
@[simp] theorem x2_ev {f : D → D → Option (D × Bool)} {l : List Nat} : (x2 f l a b).ev ρ = (a.ev ρ).bind fun x => (b.ev ρ).bind fun y => f x.1 y.1 := rfl
@[simp] theorem x2_lk {f : D → D → Option (D × Bool)} {l : List Nat} : (x2 f l a b).lk = l := rfl
@[simp] theorem x2_il {f : D → D → Option (D × Bool)} {l : List Nat} : (x2 f l a b).il = l := rfl
@[simp] theorem x1_ev {f : D → Option (D × Bool)} {l : List Nat} : (x1 f l a).ev ρ = (a.ev ρ).bind fun x => f x.1 := rfl
@[simp] theorem x1_lk {f : D → Option (D × Bool)} {l : List Nat} : (x1 f l a).lk = l := rfl
@[simp] theorem x1_il {f : D → Option (D × Bool)} {l : List Nat} : (x1 f l a).il = l := rfl

@[simp] theorem xNot_ev : (xNot a).ev ρ = (a.ev ρ).bind fun x => (dNot x.1).map fun d => (d, false) := rfl
@[simp] theorem xAnd_ev : (xAnd a b).ev ρ = (a.ev ρ).bind fun x => match x.1 with
  | .bool true => (b.ev ρ).bind fun y => match y.1 with
    | .bool c => some (.bool c, false)
    | _ => none
  | .bool false => some (.bool false, false)
  | _ => none := rfl
@[simp] theorem xOr_ev : (xOr a b).ev ρ = (a.ev ρ).bind fun x => match x.1 with
  | .bool false => (b.ev ρ).bind fun y => match y.1 with
    | .bool c => some (.bool c, false)
    | _ => none
  | .bool true => some (.bool true, false)
  | _ => none := rfl
@[simp] theorem xIf_ev : (xIf c a b).ev ρ = (c.ev ρ).bind fun x => match x.1 with
  | .bool true => a.ev ρ
  | .bool false => b.ev ρ
  | _ => none := rfl
@[simp] theorem xAnd_lk : (xAnd a b).lk = [] := rfl
@[simp] theorem xOr_lk : (xOr a b).lk = [] := rfl
@[simp] theorem xIf_lk : (xIf c a b).lk = a.lk ++ b.lk := rfl
@[simp] theorem xIf_il : (xIf c a b).il = a.il ++ b.il := rfl
@[simp] theorem evL_nil : evL ρ [] = some [] := rfl
@[simp] theorem evL_cons {xs : List Ex} : evL ρ (x :: xs) = (x.ev ρ).bind fun d => (evL ρ xs).bind fun ds => some (d.1 :: ds) := rfl
@[simp] theorem lks_nil : lks [] = [] := rfl
@[simp] theorem lks_cons {xs : List Ex} : lks (x :: xs) = x.lk ++ lks xs := by simp [lks]
@[simp] theorem xTup_ev {xs : List Ex} : (xTup xs).ev ρ = (evL ρ xs).bind fun ds => if ds.length ≤ LIM then some (.tuple ds, false) else none := rfl
@[simp] theorem xTup_lk {xs : List Ex} : (xTup xs).lk = lks xs := rfl
@[simp] theorem xTup_il {xs : List Ex} : (xTup xs).il = lks xs := rfl
@[simp] theorem xLst_ev {xs : List Ex} : (xLst xs).ev ρ = (evL ρ xs).bind fun ds => if ds.length ≤ LIM then some (.list ds, true) else none := rfl
@[simp] theorem xLst_lk {xs : List Ex} : (xLst xs).lk = lks xs := rfl
@[simp] theorem xLst_il {xs : List Ex} : (xLst xs).il = lks xs := rfl
@[simp] theorem xCall_ev {f : List D → Option (D × Bool)} {xs : List Ex} : (xCall f xs).ev ρ = (evL ρ xs).bind f := rfl
@[simp] theorem xCall_lk {f : List D → Option (D × Bool)} {xs : List Ex} : (xCall f xs).lk = lks xs := rfl
@[simp] theorem xCall_il {f : List D → Option (D × Bool)} {xs : List Ex} : (xCall f xs).il = lks xs := rfl
-- statements
@[simp] theorem sNx_ap : sNx ρ = some (.nx ρ) := rfl
@[simp] theorem sBk_ap : sBk ρ = some (.bk ρ) := rfl
@[simp] theorem sCt_ap : sCt ρ = some (.ct ρ) := rfl
@[simp] theorem sRetN_ap : sRetN ρ = some (.rt .none false) := rfl
@[simp] theorem sSeq_ap : sSeq m r ρ = (m ρ).bind fun o => match o with
  | .nx ρ' => r ρ'
  | o => some o := rfl
@[simp] theorem sAsg_ap : sAsg i x ρ = (x.ev ρ).bind fun dv => some (.nx (bindR x.lk i dv.1 dv.2 ρ)) := rfl
@[simp] theorem sRet_ap : sRet x ρ = (x.ev ρ).bind fun dv => some (.rt dv.1 dv.2) := rfl
@[simp] theorem sRetV_v0 : sRetV 0 (.val d :: ρ) = some (.rt d false) := rfl
@[simp] theorem sRetV_o0 : sRetV 0 (.own d :: ρ) = some (.rt d true) := rfl
@[simp] theorem sRetV_s {q : C} : sRetV (i + 1) (q :: ρ) = sRetV i ρ := rfl
@[simp] theorem sDrop_ap : sDrop x ρ = (x.ev ρ).bind fun _ => some (.nx ρ) := rfl
@[simp] theorem sIf_ap : sIf c m r ρ = (c.ev ρ).bind fun x => match x.1 with
  | .bool true => m ρ
  | .bool false => r ρ
  | _ => none := rfl
@[simp] theorem sFor_ap {tg : D → Rho → Option Rho} {s : Src} : sFor tg s m ρ = (s.ev ρ).bind fun q => forR tg m q.1 q.2 := rfl
@[simp] theorem forR_nil {tg : D → Rho → Option Rho} : forR tg m [] ρ = some (.nx ρ) := rfl
theorem forR_cons {tg : D → Rho → Option Rho} {ds : List D} : forR tg m (d :: ds) ρ = (tg d ρ).bind fun ρ1 => (m ρ1).bind fun o => match o with
    | .nx ρ' => forR tg m ds ρ'
    | .ct ρ' => forR tg m ds ρ'
    | .bk ρ' => some (.nx ρ')
    | .rt d fr => some (.rt d fr) := rfl
@[simp] theorem tgN_ap : tgN i d ρ = some (ρ.set i (.val d)) := rfl
@[simp] theorem srcV_ev : (srcV x).ev ρ = (x.ev ρ).bind fun dv => (dItems dv.1).bind fun ds => some (ds, settle x.lk dv.1 dv.2 ρ) := rfl
@[simp] theorem srcV_lk : (srcV x).lk = x.lk := rfl
@[simp] theorem srcR1_ev : (srcR1 x).ev ρ = (x.ev ρ).bind fun dv => match dv.1 with
  | .int n => if rgOk n = true then some (rangeD 0 n, ρ) else none
  | _ => none := rfl
@[simp] theorem srcR2_ev {y : Ex} : (srcR2 x y).ev ρ = (x.ev ρ).bind fun dv => (y.ev ρ).bind fun du => match dv.1, du.1 with
  | .int lo, .int hi => if (rgOk lo && rgOk hi) = true then some (rangeD lo hi, ρ) else none
  | _, _ => none := rfl
@[simp] theorem srcR1_lk : (srcR1 x).lk = [] := rfl
@[simp] theorem srcR2_lk {y : Ex} : (srcR2 x y).lk = [] := rfl
@[simp] theorem sPar_ap {y : Ex} {j : Nat} : sPar i j x y ρ = (x.ev ρ).bind fun dv => (y.ev ρ).bind fun du => some (.nx (((unown (x.lk ++ y.lk) ρ).set i (.val dv.1)).set j (.val du.1))) := rfl
@[simp] theorem sAug_ap {f : D → D → Option D} : sAug f i x ρ = (getR ρ i).bind fun a => (x.ev ρ).bind fun b => (f a b.1).bind fun d => some (.nx (ρ.set i (.val d))) := rfl
@[simp] theorem ownL_o0 {ds : List D} : ownL (.own (.list ds) :: ρ) 0 = some ds := rfl
@[simp] theorem ownL_s {q : C} : ownL (q :: ρ) (i + 1) = ownL ρ i := rfl
@[simp] theorem sApp_ap : sApp i x ρ = (x.ev ρ).bind fun dv => (ownL (settle x.lk dv.1 dv.2 ρ) i).bind fun ds => if ds.length < LIM then some (.nx ((settle x.lk dv.1 dv.2 ρ).set i (.own (.list (ds ++ [dv.1]))))) else none := rfl
@[simp] theorem xLc_ev {vs : List Nat} {tg : D → Rho → Option Rho} {c : Option Ex} {s : Src} : (xLc vs tg c s x).ev ρ = (s.ev ρ).bind fun q => if q.1.length < LIM then (lcR tg (ttR c) x.ev (wipeR q.2 vs) q.1).bind fun r => some (.list r, true) else none := rfl
@[simp] theorem xLc_lk {vs : List Nat} {tg : D → Rho → Option Rho} {c : Option Ex} {s : Src} : (xLc vs tg c s x).lk = s.lk ++ vs ++ x.lk := rfl
@[simp] theorem xLc_il {vs : List Nat} {tg : D → Rho → Option Rho} {c : Option Ex} {s : Src} : (xLc vs tg c s x).il = s.lk ++ vs ++ x.lk := rfl
@[simp] theorem wipeR_nil : wipeR ρ [] = ρ := rfl
@[simp] theorem wipeR_cons {v : Nat} {vs : List Nat} : wipeR ρ (v :: vs) = (wipeR ρ vs).set v .un := rfl
@[simp] theorem lcR_nil {tg : D → Rho → Option Rho} {tt : Rho → Option Bool} {el : Rho → Option (D × Bool)} : lcR tg tt el ρ [] = some [] := rfl
theorem lcR_cons {tg : D → Rho → Option Rho} {tt : Rho → Option Bool} {el : Rho → Option (D × Bool)} {ds : List D} : lcR tg tt el ρ (d :: ds) = (tg d ρ).bind fun ρ1 => (tt ρ1).bind fun b => if b = true then (el ρ1).bind fun y => (lcR tg tt el ρ ds).bind fun r => some (y.1 :: r) else lcR tg tt el ρ ds := rfl
@[simp] theorem ttR_none : ttR none ρ = some true := rfl
@[simp] theorem ttR_some : ttR (some c) ρ = (c.ev ρ).bind fun x => match x.1 with
    | .bool b => some b
    | _ => none := rfl
theorem runF_ap {n N : Nat} {ds : List D} (h : ds.length = n) : runF n N m ds = (m (ds.map C.val ++ List.replicate (N - n) C.un)).bind fun o => match o with
  | .rt d fr => some (d, fr)
  | .nx _ => some (.none, false)
  | _ => none := by unfold runF; rw [if_pos h]; first | done | rfl
-- data
@[simp] theorem dAdd_ii {i j : Int} : dAdd (.int i) (.int j) = some (.int (i + j), false) := rfl
@[simp] theorem dSub_ii {i j : Int} : dSub (.int i) (.int j) = some (.int (i - j)) := rfl
@[simp] theorem dMul_ii {i j : Int} : dMulA (.int i) (.int j) = if mulOk i j = true then some (.int (i * j), false) else none := rfl
@[simp] theorem dDiv_ii {i j : Int} : dDiv (.int i) (.int j) = if divOk i j = true then some (.int (fdv i j)) else none := rfl
@[simp] theorem dMod_ii {i j : Int} : dMod (.int i) (.int j) = if modOk i j = true then some (.int (i % j)) else none := rfl
@[simp] theorem dPow_ii {i j : Int} : dPow (.int i) (.int j) = if powOk i j = true then some (.int (i ^ j.toNat)) else none := rfl
@[simp] theorem dLt_ii {i j : Int} : dLt (.int i) (.int j) = some (.bool (decide (i < j))) := rfl
@[simp] theorem dLe_ii {i j : Int} : dLe (.int i) (.int j) = some (.bool (decide (i ≤ j))) := rfl
@[simp] theorem dGt_ii {i j : Int} : dGt (.int i) (.int j) = some (.bool (decide (j < i))) := rfl
@[simp] theorem dGe_ii {i j : Int} : dGe (.int i) (.int j) = some (.bool (decide (j ≤ i))) := rfl
@[simp] theorem dEq_ii {i j : Int} : dEq (.int i) (.int j) = some (.bool (decide (i = j))) := rfl
@[simp] theorem dNe_ii {i j : Int} : dNe (.int i) (.int j) = some (.bool (!decide (i = j))) := rfl
@[simp] theorem dEq_ss {i j : Str} : dEq (.str i) (.str j) = some (.bool (decide (i = j))) := rfl
@[simp] theorem dNe_ss {i j : Str} : dNe (.str i) (.str j) = some (.bool (!decide (i = j))) := rfl
@[simp] theorem dEq_bb {i j : Bool} : dEq (.bool i) (.bool j) = some (.bool (decide (i = j))) := rfl
@[simp] theorem dNeg_i {i : Int} : dNeg (.int i) = some (.int (-i)) := rfl
@[simp] theorem dAbs_i {i : Int} : dAbs (.int i) = some (.int (if i < 0 then -i else i)) := rfl
@[simp] theorem dNot_b {b : Bool} : dNot (.bool b) = some (.bool (!b)) := rfl
@[simp] theorem dIs_n {x : D} : dIs x .none = some (.bool (isN x)) := rfl
@[simp] theorem dIsNot_n {x : D} : dIsNot x .none = some (.bool (!isN x)) := rfl
@[simp] theorem isN_n : isN .none = true := rfl
@[simp] theorem isN_i {i : Int} : isN (.int i) = false := rfl
@[simp] theorem isN_s {i : Str} : isN (.str i) = false := rfl
@[simp] theorem isN_b {i : Bool} : isN (.bool i) = false := rfl
@[simp] theorem isN_t {i : List D} : isN (.tuple i) = false := rfl
@[simp] theorem isN_l {i : List D} : isN (.list i) = false := rfl
@[simp] theorem dMax2_ii {i j : Int} : dMax2 (.int i) (.int j) = some (.int (if j > i then j else i)) := rfl
@[simp] theorem dMin2_ii {i j : Int} : dMin2 (.int i) (.int j) = some (.int (if j < i then j else i)) := rfl
@[simp] theorem dIx_t {xs : List D} {i : Int} : dIx (.tuple xs) (.int i) = atI xs i := rfl
@[simp] theorem dIx_l {xs : List D} {i : Int} : dIx (.list xs) (.int i) = atI xs i := rfl
@[simp] theorem dIx_scr {ns : List Int} {i : Int} : dIx (scrD ns) (.int i) = atI (ns.map .int) i := by
  show (match scrOf ((.none, .none) :: ns.map fun n => (.none, .int n)) with | some xs => atI xs i | none => none) = _
  rw [scrOf_scr]
@[simp] theorem dLen_t {xs : List D} : dLen (.tuple xs) = some (.int xs.length) := rfl
@[simp] theorem dLen_l {xs : List D} : dLen (.list xs) = some (.int xs.length) := rfl
@[simp] theorem dLen_scr {ns : List Int} : dLen (scrD ns) = some (.int ns.length) := by
  show (match scrOf ((.none, .none) :: ns.map fun n => (.none, .int n)) with | some xs => some (PyData.int xs.length) | none => none) = _
  rw [scrOf_scr]
  simp
@[simp] theorem dItems_t {xs : List D} : dItems (.tuple xs) = some xs := rfl
@[simp] theorem dItems_l {xs : List D} : dItems (.list xs) = some xs := rfl
@[simp] theorem dTuple_t {xs : List D} : dTuple (.tuple xs) = some (.tuple xs, false) := rfl
@[simp] theorem dTuple_l {xs : List D} : dTuple (.list xs) = some (.tuple xs, false) := rfl
@[simp] theorem dList_t {xs : List D} : dList (.tuple xs) = some (.list xs, true) := rfl
@[simp] theorem dList_l {xs : List D} : dList (.list xs) = some (.list xs, true) := rfl
theorem atI_n {α : Type} {xs : List α} {n : Nat} : atI xs (n : Int) = xs[n]? := by
  unfold atI ixN
  by_cases h : n < xs.length
  · rw [if_pos (by omega), if_pos (by omega)]
    simp
  · rw [if_pos (by omega), if_neg (by omega)]
    simp
    omega
@[simp] theorem atI_0 {α : Type} {x : α} {xs : List α} : atI (x :: xs) 0 = some x := atI_n (n := 0)
@[simp] theorem atI_2 {α : Type} {xs : List α} : atI xs 2 = xs[2]? := atI_n (n := 2)
@[simp] theorem atI_3 {α : Type} {xs : List α} : atI xs 3 = xs[3]? := atI_n (n := 3)
@[simp] theorem atI_4 {α : Type} {xs : List α} : atI xs 4 = xs[4]? := atI_n (n := 4)
@[simp] theorem atI_5 {α : Type} {xs : List α} : atI xs 5 = xs[5]? := atI_n (n := 5)
@[simp] theorem atI_6 {α : Type} {xs : List α} : atI xs 6 = xs[6]? := atI_n (n := 6)
@[simp] theorem atI_1 {α : Type} {xs : List α} : atI xs 1 = xs[1]? := atI_n (n := 1)
theorem mulOk_r {i j : Int} (h : j.natAbs < 2 ^ 64) : mulOk i j = true := by
  unfold mulOk
  rw [decide_eq_true h]
  simp
theorem mulOk_l {i j : Int} (h : i.natAbs < 2 ^ 64) : mulOk i j = true := by
  unfold mulOk
  rw [decide_eq_true h]
  simp
theorem mulOk_b {i j : Int} {a b : Nat} (ha : i.natAbs < 2 ^ a) (hb : j.natAbs < 2 ^ b) (h : a + b < 1000000) (a0 : 0 < a) (b0 : 0 < b) : mulOk i j = true := by
  unfold mulOk
  have h1 : i.natAbs.log2 < a := PySem.Flt.log2_lt_of a0 ha
  have h2 : j.natAbs.log2 < b := PySem.Flt.log2_lt_of b0 hb
  rw [decide_eq_true (show i.natAbs.log2 + j.natAbs.log2 < 1000000 by omega)]
  simp
theorem divOk_b {i j : Int} {b : Nat} (h0 : j ≠ 0) (hb : j.natAbs < 2 ^ b) (b0 : 0 < b) (h : b ≤ 9000) : divOk i j = true := by
  unfold divOk
  have h2 : j.natAbs.log2 < b := PySem.Flt.log2_lt_of b0 hb
  rw [decide_eq_true h0, decide_eq_true (show j.natAbs.log2 < 9000 by omega)]
  rfl
theorem modOk_b {i j : Int} (h : 0 < j) : modOk i j = true := decide_eq_true h
theorem rgOk_b {i : Int} (h : -10000000 ≤ i) (h' : i ≤ 10000000) : rgOk i = true := by
  unfold rgOk
  rw [decide_eq_true h, decide_eq_true h']
  rfl
/-- a for loop that goes on: by an invariant over the taken items -/
theorem forR_inv {tg : D → Rho → Option Rho} {ds : List D} (I : Nat → Rho) (h : ∀ k (hk : k < ds.length), ∃ ρ1, tg ds[k] (I k) = some ρ1 ∧ (m ρ1 = some (.nx (I (k + 1))) ∨ m ρ1 = some (.ct (I (k + 1))))) : forR tg m ds (I 0) = some (.nx (I ds.length)) := by
  have go : ∀ (n k : Nat), k + n = ds.length → forR tg m (ds.drop k) (I k) = some (.nx (I ds.length)) := by
    intro n
    induction n with
    | zero => intro k hk; rw [List.drop_eq_nil_of_le (by omega), forR_nil, show k = ds.length by omega]
    | succ n ih =>
      intro k hk
      obtain ⟨ρ1, e1, e2⟩ := h k (by omega)
      rw [List.drop_eq_getElem_cons (by omega), forR_cons, e1]
      rcases e2 with e2 | e2
      · simp only [Option.bind_some, e2]; exact ih (k + 1) (by omega)
      · simp only [Option.bind_some, e2]; exact ih (k + 1) (by omega)
  have z := go ds.length 0 (by omega)
  rwa [List.drop_zero] at z
/-- a comprehension: item by item -/
theorem lcR_map {tg : D → Rho → Option Rho} {tt : Rho → Option Bool} {el : Rho → Option (D × Bool)} {ds : List D} {f : D → D} (h : ∀ d ∈ ds, ∃ ρ1 fr, tg d ρ = some ρ1 ∧ tt ρ1 = some true ∧ el ρ1 = some (f d, fr)) : lcR tg tt el ρ ds = some (ds.map f) := by
  induction ds with
  | nil => rfl
  | cons d ds ih =>
    obtain ⟨ρ1, fr, e1, e2, e3⟩ := h d List.mem_cons_self
    rw [lcR_cons, e1]
    simp only [Option.bind_some, e2, if_true, e3, ih fun d hd => h d (List.mem_cons_of_mem _ hd), List.map_cons]
theorem lcR_filter {tg : D → Rho → Option Rho} {tt : Rho → Option Bool} {el : Rho → Option (D × Bool)} {ds : List D} {p : D → Bool} {f : D → D} (h : ∀ d ∈ ds, ∃ ρ1 fr, tg d ρ = some ρ1 ∧ tt ρ1 = some (p d) ∧ (p d = true → el ρ1 = some (f d, fr))) : lcR tg tt el ρ ds = some ((ds.filter p).map f) := by
  induction ds with
  | nil => rfl
  | cons d ds ih =>
    obtain ⟨ρ1, fr, e1, e2, e3⟩ := h d List.mem_cons_self
    rw [lcR_cons, e1]
    have q := ih fun d hd => h d (List.mem_cons_of_mem _ hd)
    cases hp : p d with
    | true => simp only [Option.bind_some, e2, hp, if_true, e3 hp, q, List.filter_cons, List.map_cons]
    | false => simp [Option.bind_some, e2, hp, q, List.filter_cons]
/-- a while loop: by a measure -/
theorem whileR_mono {c : Ex} {b : Sm} {o : Out} : ∀ {n k : Nat} {ρ : Rho}, whileR c b n ρ = some o → n ≤ k → whileR c b k ρ = some o := by
  intro n
  induction n with
  | zero => intro k ρ h; cases h
  | succ n ih =>
    intro k ρ h hk
    obtain ⟨k, rfl⟩ : ∃ k', k = k' + 1 := ⟨k - 1, by omega⟩
    unfold whileR at h ⊢
    obtain ⟨⟨d, fr⟩, e1, e2⟩ := Option.bind_eq_some_iff.mp h
    rw [e1]
    dsimp only [Option.bind_some] at e2 ⊢
    split at e2
    · exact e2
    · obtain ⟨o1, e3, e4⟩ := Option.bind_eq_some_iff.mp e2
      rw [e3]
      cases o1 with
      | nx ρ' => exact ih e4 (by omega)
      | ct ρ' => exact ih e4 (by omega)
      | bk ρ' => exact e4
      | rt d fr => exact e4
    · cases e2
theorem FUEL_eq : FUEL = 10 ^ 1000 := by unfold FUEL; rfl
theorem sWhile_of {c : Ex} {b : Sm} {o : Out} {n : Nat} (h : whileR c b n ρ = some o) (hn : n ≤ FUEL) : sWhile c b ρ = some o := whileR_mono h hn
theorem whileR_stop {c : Ex} {b : Sm} {n : Nat} {fr : Bool} (h : c.ev ρ = some (.bool false, fr)) : whileR c b (n + 1) ρ = some (.nx ρ) := by
  unfold whileR
  rw [h]
  rfl
theorem whileR_go {c : Ex} {b : Sm} {n : Nat} {fr : Bool} {ρ' : Rho} {o : Option Out} (h : c.ev ρ = some (.bool true, fr)) (hb : b ρ = some (.nx ρ')) (hn : whileR c b n ρ' = o) : whileR c b (n + 1) ρ = o := by
  rw [whileR, h]
  simp only [Option.bind_some, hb]
  exact hn
end
end Wd
set_option maxRecDepth 100000
set_option maxHeartbeats 2000000
namespace Wd
open PySem PySem.Spec L2
section
variable {ρ : Rho} {d : D} {i : Nat} {x k : Ex}
@[simp] theorem dIxA_t {xs : List D} {y : D} : dIxA (.tuple xs) y = dIx (.tuple xs) y := rfl
@[simp] theorem dIxA_l {xs : List D} {y : D} : dIxA (.list xs) y = dIx (.list xs) y := rfl
@[simp] theorem dIxA_s {xs : Str} {y : D} : dIxA (.str xs) y = dIx (.str xs) y := rfl
@[simp] theorem dIxA_scr {ns : List Int} {i : Int} : dIxA (scrD ns) (.int i) = atI (ns.map .int) i := by
  rw [← dIx_scr]
  unfold dIxA scrD
  dsimp only
  rw [scrOf_scr]
theorem dIxA_d {kvs : List (D × D)} {y : D} (h : scrOf kvs = none) (ko : kOk kvs y = true) : dIxA (.dict kvs) y = lkD kvs y := by
  show (match scrOf kvs with | some _ => _ | none => _) = _
  rw [h]
  exact if_pos ko
theorem inD_d {kvs : List (D × D)} {y : D} (h : scrOf kvs = none) (ko : kOk kvs y = true) : inD y (.dict kvs) = some (lkD kvs y).isSome := by
  show (match scrOf kvs with | some _ => _ | none => _) = _
  rw [h]
  exact if_pos ko
theorem setD_d {kvs : List (D × D)} {y v : D} (h : scrOf kvs = none) (ko : kOk kvs y = true) (hl : kvs.length < LIM) : setD (.dict kvs) y v = some (.dict (putD kvs y v)) := by
  have : ∀ e, setD (.dict kvs) y v = (if kOk kvs y = true ∧ (scrOf kvs).isNone = true ∧ kvs.length < LIM then some (.dict (putD kvs y v)) else e) → e = none → setD (.dict kvs) y v = some (.dict (putD kvs y v)) := fun e q _ => by rw [q, if_pos ⟨ko, by rw [h]; rfl, hl⟩]
  exact this none (by cases y <;> rfl) rfl
theorem scr_kind {kvs : List (D × D)} (h : (kindS kvs || kindT kvs) = true) : scrOf kvs = none := by
  unfold scrOf
  split
  · simp [kindS, kindT, sKey, tKey] at h
  · rfl
@[simp] theorem xDic0_ev : xDic0.ev ρ = some (.dict [], true) := rfl
@[simp] theorem xDic0_lk : xDic0.lk = [] := rfl
@[simp] theorem xDic0_il : xDic0.il = [] := rfl
@[simp] theorem ownA_o0 : ownA (.own d :: ρ) 0 = some d := rfl
@[simp] theorem ownA_s {q : C} : ownA (q :: ρ) (i + 1) = ownA ρ i := rfl
@[simp] theorem sSetI_ap : sSetI i k x ρ = (x.ev ρ).bind fun dv => (k.ev ρ).bind fun kv => (ownA (settle x.lk dv.1 dv.2 ρ) i).bind fun o => (setD o kv.1 dv.1).bind fun d => some (.nx ((settle x.lk dv.1 dv.2 ρ).set i (.own d))) := rfl
theorem lkD_put {kvs : List (D × D)} {a b v : D} : lkD (putD kvs a v) b = if keyOf a = keyOf b then some v else lkD kvs b := by
  have h0 : ∀ l : List (D × D), (∀ p ∈ l, ¬ keyOf p.1 = keyOf a) → keyOf a = keyOf b → lkD l b = none := by
    intro l h e
    unfold lkD
    rw [List.find?_eq_none.mpr fun p hp => by simpa using fun z => h p hp (z.trans e.symm)]
    rfl
  have hm : ∀ l : List (D × D), lkD (l.map fun p => if keyOf p.1 = keyOf a then (p.1, v) else p) b = if keyOf a = keyOf b then (lkD l b).map fun _ => v else lkD l b := by
    intro l
    induction l with
    | nil => split <;> rfl
    | cons p l ih =>
      unfold lkD at ih ⊢
      rw [List.map_cons]
      by_cases h : keyOf p.1 = keyOf a
      · rw [if_pos h, List.find?_cons, List.find?_cons]
        by_cases hb : keyOf a = keyOf b
        · simp [h, hb]
        · have hb' : ¬ keyOf p.1 = keyOf b := fun z => hb (h.symm.trans z)
          simp only [decide_eq_false hb']
          rw [if_neg hb] at ih ⊢
          exact ih
      · rw [if_neg h, List.find?_cons, List.find?_cons]
        by_cases hb : keyOf p.1 = keyOf b
        · have : ¬ keyOf a = keyOf b := fun z => h (hb.trans z.symm)
          simp [hb, this]
        · simp only [decide_eq_false hb]
          exact ih
  have hs : ∀ l : List (D × D), lkD (l ++ [(a, v)]) b = match lkD l b with | some d => some d | none => if keyOf a = keyOf b then some v else none := by
    intro l
    unfold lkD
    rw [List.find?_append]
    cases h : l.find? fun p => decide (keyOf p.1 = keyOf b) with
    | some q => rfl
    | none =>
      by_cases hb : keyOf a = keyOf b
      · simp [hb]
      · simp [hb]
  unfold putD
  split
  · next h =>
    rw [hm]
    split
    · next e =>
      obtain ⟨p, hp, hq⟩ := List.any_eq_true.mp h
      have : (lkD kvs b).isSome = true := by
        rw [lkD_any]
        exact List.any_eq_true.mpr ⟨p, hp, decide_eq_true ((of_decide_eq_true hq).trans e)⟩
      obtain ⟨z, hz⟩ := Option.isSome_iff_exists.mp this
      rw [hz]
      rfl
    · rfl
  · next h =>
    rw [hs]
    by_cases e : keyOf a = keyOf b
    · rw [if_pos e, if_pos e, h0 kvs (fun p hp z => h (List.any_eq_true.mpr ⟨p, hp, decide_eq_true z⟩)) e]
    · rw [if_neg e, if_neg e]
      cases lkD kvs b <;> rfl
@[simp] theorem xSl_ev {a : Ex} {lo hi : Option Ex} : (xSl a lo hi).ev ρ = (a.ev ρ).bind fun x => (evO ρ lo).bind fun l => (evO ρ hi).bind fun h => dSl x.1 l h := rfl
@[simp] theorem xSl_lk {a : Ex} {lo hi : Option Ex} : (xSl a lo hi).lk = a.il := rfl
@[simp] theorem xSl_il {a : Ex} {lo hi : Option Ex} : (xSl a lo hi).il = a.il := rfl
@[simp] theorem evO_none : evO ρ none = some none := rfl
@[simp] theorem evO_some : evO ρ (some x) = (x.ev ρ).bind fun d => match d.1 with
    | .int i => some (some i)
    | _ => none := rfl
theorem cutD_take {α : Type} {xs : List α} {m : Nat} : cutD xs none (some (m : Int)) = xs.take m := by
  unfold cutD
  rw [HT.sIx_none, HT.sIx_nat, List.drop_zero, Nat.sub_zero]
  by_cases h : m ≤ xs.length
  · rw [Nat.min_eq_left h]
  · rw [Nat.min_eq_right (by omega), List.take_of_length_le (Nat.le_refl _), List.take_of_length_le (by omega)]
theorem cutD_drop {α : Type} {xs : List α} {m : Nat} : cutD xs (some (m : Int)) none = xs.drop m := by
  unfold cutD
  rw [HT.sIx_none, HT.sIx_nat]
  by_cases h : m ≤ xs.length
  · rw [Nat.min_eq_left h, List.take_of_length_le (by simp)]
  · rw [Nat.min_eq_right (by omega), Nat.sub_self, List.take_zero, List.drop_of_length_le (by omega)]
@[simp] theorem dSl_l {xs : List D} {l h : Option Int} : dSl (.list xs) l h = some (.list (cutD xs l h), true) := rfl
@[simp] theorem dSl_t {xs : List D} {l h : Option Int} : dSl (.tuple xs) l h = some (.tuple (cutD xs l h), false) := rfl
theorem immL_ints {ds : List Int} : immL (ds.map PyData.int) = true := by
  induction ds with
  | nil => rfl
  | cons d ds ih => rw [List.map_cons, immL, ih]; rfl
end
end Wd
set_option maxRecDepth 100000
set_option maxHeartbeats 2000000
namespace Wd
open PySem PySem.Spec L2
section
variable {ρ : Rho} {d : D} {i : Nat} {x y k : Ex}
@[simp] theorem dRev_l {xs : List D} : dRev (.list xs) = some (.list xs.reverse, true) := rfl
@[simp] theorem xLstR_ev : (xLstR x y).ev ρ = (x.ev ρ).bind fun dv => (y.ev ρ).bind fun du => match dv.1, du.1 with
  | .int lo, .int hi => if (rgOk lo && rgOk hi && decide ((hi - lo).toNat ≤ LIM)) = true then some (.list (rangeD lo hi), true) else none
  | _, _ => none := rfl
@[simp] theorem xLstR_lk : (xLstR x y).lk = [] := rfl
@[simp] theorem xLstR_il : (xLstR x y).il = [] := rfl
@[simp] theorem xTupR_ev : (xTupR x y).ev ρ = (x.ev ρ).bind fun dv => (y.ev ρ).bind fun du => match dv.1, du.1 with
  | .int lo, .int hi => if (rgOk lo && rgOk hi && decide ((hi - lo).toNat ≤ LIM)) = true then some (.tuple (rangeD lo hi), false) else none
  | _, _ => none := rfl
@[simp] theorem xTupR_lk : (xTupR x y).lk = [] := rfl
@[simp] theorem xTupR_il : (xTupR x y).il = [] := rfl
/-- texts joined -/
theorem dAdd_ss {a b : Str} (h : a.length + b.length ≤ LIM) : dAdd (.str a) (.str b) = some (.str (a ++ b), false) := by
  show (if a.length + b.length ≤ LIM then some (PyData.str (a ++ b), false) else none) = _
  rw [if_pos h]
end
end Wd
set_option maxRecDepth 100000
set_option maxHeartbeats 2000000
namespace Wd
open PySem PySem.Spec L2
section
variable {ρ : Rho} {d : D} {i : Nat} {x y k : Ex}
@[simp] theorem xLc2_ev {vs vs1 : List Nat} {tg tg1 : D → Rho → Option Rho} {c c1 : Option Ex} {s s1 : Src} : (xLc2 vs tg c s vs1 tg1 c1 s1 x).ev ρ = (s.ev ρ).bind fun q => (lcR2 tg (ttR c) s1 vs1 tg1 (ttR c1) x.ev (wipeR q.2 vs) q.1).bind fun r => if r.length < LIM then some (.list r, true) else none := rfl
@[simp] theorem xLc2_lk {vs vs1 : List Nat} {tg tg1 : D → Rho → Option Rho} {c c1 : Option Ex} {s s1 : Src} : (xLc2 vs tg c s vs1 tg1 c1 s1 x).lk = s.lk ++ vs ++ (s1.lk ++ x.lk) := rfl
@[simp] theorem xLc2_il {vs vs1 : List Nat} {tg tg1 : D → Rho → Option Rho} {c c1 : Option Ex} {s s1 : Src} : (xLc2 vs tg c s vs1 tg1 c1 s1 x).il = s.lk ++ vs ++ (s1.lk ++ x.lk) := rfl
@[simp] theorem dIntB_i {i : Int} : dIntB (.int i) = some (.int i) := rfl
@[simp] theorem dIntB_b {b : Bool} : dIntB (.bool b) = some (.int (if b then 1 else 0)) := rfl
@[simp] theorem sPop_ap : sPop i ρ = (ownL ρ i).bind fun ds => if ds ≠ [] then some (.nx (ρ.set i (.own (.list ds.dropLast)))) else none := rfl
theorem lcR2_map {α : Type} {tg tg1 : D → Rho → Option Rho} {tt tt1 : Rho → Option Bool} {s1 : Src} {vs1 : List Nat} {el : Rho → Option (D × Bool)} {ρ : Rho} {g : α → D} {h : α → List D} : ∀ {U : List α}, (∀ u ∈ U, ∃ ρ1 q, tg (g u) ρ = some ρ1 ∧ tt ρ1 = some true ∧ s1.ev ρ1 = some q ∧ lcR tg1 tt1 el (wipeR q.2 vs1) q.1 = some (h u)) → lcR2 tg tt s1 vs1 tg1 tt1 el ρ (U.map g) = some (U.flatMap h)
  | [], _ => rfl
  | u :: U, H => by
    obtain ⟨ρ1, q, e1, e2, e3, e4⟩ := H u List.mem_cons_self
    rw [List.map_cons]
    unfold lcR2
    rw [e1]
    simp only [Option.bind_some, e2, if_true, e3, e4, lcR2_map (U := U) fun x hx => H x (List.mem_cons_of_mem _ hx), List.flatMap_cons]
end
end Wd
namespace Wd
open PySem PySem.Spec L2
theorem forR_ex {tg : D → Rho → Option Rho} {m : Sm} (P : Nat → Rho → Prop) (Q : Out → Prop) : ∀ {ds : List D} {ρ : Rho}, P 0 ρ → (∀ k (hk : k < ds.length) ρ, P k ρ → ∃ ρ1 o, tg ds[k] ρ = some ρ1 ∧ m ρ1 = some o ∧ ((∃ ρ', (o = .nx ρ' ∨ o = .ct ρ') ∧ P (k + 1) ρ') ∨ (∃ ρ', o = .bk ρ' ∧ Q (.nx ρ')) ∨ (∃ d fr, o = .rt d fr ∧ Q o))) → ∃ o, forR tg m ds ρ = some o ∧ ((∃ ρ', o = .nx ρ' ∧ P ds.length ρ') ∨ Q o) := by
  intro ds
  induction ds generalizing P with
  | nil => intro ρ h0 _; exact ⟨_, rfl, .inl ⟨_, rfl, h0⟩⟩
  | cons d ds ih =>
    intro ρ h0 h
    obtain ⟨ρ1, o, e1, e2, e3⟩ := h 0 (by simp) ρ h0
    rw [List.getElem_cons_zero] at e1
    rw [forR_cons, e1]
    simp only [Option.bind_some, e2]
    rcases e3 with ⟨ρ', e, h1⟩ | ⟨ρ', e, q⟩ | ⟨d, fr, e, q⟩
    · have z := ih (P := fun k => P (k + 1)) h1 (fun k hk r hr => by
        have := h (k + 1) (by simp; omega) r hr
        rwa [List.getElem_cons_succ] at this)
      rcases e with rfl | rfl <;> exact z
    · cases e; exact ⟨_, rfl, .inr q⟩
    · cases e; exact ⟨_, rfl, .inr q⟩
/-- a loop that runs to its end -/
theorem forR_run {tg : D → Rho → Option Rho} {m : Sm} {ds : List D} {ρ : Rho} (P : Nat → Rho → Prop) (h0 : P 0 ρ) (h : ∀ k (hk : k < ds.length) ρ, P k ρ → ∃ ρ1 ρ', tg ds[k] ρ = some ρ1 ∧ (m ρ1 = some (.nx ρ') ∨ m ρ1 = some (.ct ρ')) ∧ P (k + 1) ρ') : ∃ ρ', forR tg m ds ρ = some (.nx ρ') ∧ P ds.length ρ' := by
  obtain ⟨o, e1, e2⟩ := forR_ex P (fun _ => False) h0 (fun k hk r hr => by
    obtain ⟨ρ1, ρ', a, b, c⟩ := h k hk r hr
    rcases b with b | b
    · exact ⟨ρ1, _, a, b, .inl ⟨ρ', .inl rfl, c⟩⟩
    · exact ⟨ρ1, _, a, b, .inl ⟨ρ', .inr rfl, c⟩⟩)
  rcases e2 with ⟨ρ', rfl, p⟩ | q
  · exact ⟨ρ', e1, p⟩
  · exact q.elim
theorem sSeq_go {m r : Sm} {ρ ρ' : Rho} (h : m ρ = some (.nx ρ')) : sSeq m r ρ = r ρ' := by rw [sSeq_ap, h]; rfl
theorem sSeq_rt {m r : Sm} {ρ : Rho} {d : D} {fr : Bool} (h : m ρ = some (.rt d fr)) : sSeq m r ρ = some (.rt d fr) := by rw [sSeq_ap, h]; rfl
theorem run_of {n N : Nat} {m : Sm} {ds : List D} {d : D} {fr : Bool} (h : ds.length = n) (e : m (ds.map C.val ++ List.replicate (N - n) C.un) = some (.rt d fr)) : runF n N m ds = some (d, fr) := by rw [runF_ap h, e]; rfl
theorem rangeD_get {lo hi : Int} {k : Nat} (h : k < (rangeD lo hi).length) : (rangeD lo hi)[k] = .int (lo + k) := by simp [rangeD]
theorem rangeD0_get {hi : Int} {k : Nat} (h : k < (rangeD 0 hi).length) : (rangeD 0 hi)[k] = .int k := by simp [rangeD]
theorem rgOk_n {n : Nat} (h : n ≤ 10000000) : rgOk (n : Int) = true := rgOk_b (by omega) (by omega)
@[simp] theorem limE : LIM = 10000000 := rfl
theorem fdv_pos {i j : Int} (h : 0 < j) : fdv i j = i / j := if_pos h
/-- data without dicts, of depth under n, with good texts -/
def plainS : Nat → D → Prop
  | 0, _ => False
  | n + 1, .tuple ds => ∀ x ∈ ds, plainS n x
  | n + 1, .list ds => ∀ x ∈ ds, plainS n x
  | _ + 1, .dict _ => False
  | _ + 1, .str x => PyData.strOk x = true
  | _ + 1, _ => True
theorem plainS_eqv {n : Nat} : ∀ {d : D}, plainS n d → PyData.eqv d d = true ∧ d.canLay0 = true ∧ d.depth ≤ n := by
  induction n with
  | zero => intro d h; exact h.elim
  | succ n ih =>
    have go : ∀ ds : List D, (∀ x ∈ ds, plainS n x) → PyData.eqvAll ds ds = true ∧ PyData.canLayAll0 ds = true ∧ PyData.depthAll ds ≤ n := by
      intro ds
      induction ds with
      | nil => intro _; exact ⟨by simp [PyData.eqvAll], by simp [PyData.canLayAll0], by simp [PyData.depthAll]⟩
      | cons x xs ihx =>
        intro h
        obtain ⟨a, b, c⟩ := ih (h x List.mem_cons_self)
        obtain ⟨a', b', c'⟩ := ihx fun y hy => h y (List.mem_cons_of_mem _ hy)
        exact ⟨by rw [PyData.eqvAll, a, a']; rfl, by rw [PyData.canLayAll0, b, b']; rfl, by rw [PyData.depthAll]; omega⟩
    intro d h
    cases d with
    | none => exact ⟨by simp [PyData.eqv], by simp [PyData.canLay0], by simp [PyData.depth]⟩
    | bool b => exact ⟨by simp [PyData.eqv], by simp [PyData.canLay0], by simp [PyData.depth]⟩
    | int b => exact ⟨by simp [PyData.eqv], by simp [PyData.canLay0], by simp [PyData.depth]⟩
    | str x =>
      have h' : PyData.strOk x = true := h
      exact ⟨by simp [PyData.eqv], by simpa [PyData.canLay0] using h', by simp [PyData.depth]⟩
    | dict _ => exact h.elim
    | tuple ds =>
      obtain ⟨a, b, c⟩ := go ds h
      exact ⟨by rw [PyData.eqv]; exact a, by rw [PyData.canLay0]; exact b, by rw [PyData.depth]; omega⟩
    | list ds =>
      obtain ⟨a, b, c⟩ := go ds h
      exact ⟨by rw [PyData.eqv]; exact a, by rw [PyData.canLay0]; exact b, by rw [PyData.depth]; omega⟩
theorem dEq_self {n : Nat} {d : D} (h : plainS n d) (hn : n ≤ 64) : dEq d d = some (.bool true) := by
  obtain ⟨a, b, c⟩ := plainS_eqv h
  have sh : SeqAt.shaped d = true := by
    unfold SeqAt.shaped
    rw [b, decide_eq_true (show d.depth ≤ 64 by omega)]
    rfl
  unfold dEq eqD
  split <;> simp_all
theorem lcR_all {tg : D → Rho → Option Rho} {tt : Rho → Option Bool} {el : Rho → Option (D × Bool)} {ρ : Rho} {ds : List D} (P : D → Prop) (h : ∀ d ∈ ds, ∃ ρ1 y fr, tg d ρ = some ρ1 ∧ tt ρ1 = some true ∧ el ρ1 = some (y, fr) ∧ P y) : ∃ ys, lcR tg tt el ρ ds = some ys ∧ ys.length = ds.length ∧ ∀ y ∈ ys, P y := by
  induction ds with
  | nil => exact ⟨[], rfl, rfl, by simp⟩
  | cons d ds ih =>
    obtain ⟨ρ1, y, fr, e1, e2, e3, p⟩ := h d List.mem_cons_self
    obtain ⟨ys, q1, q2, q3⟩ := ih fun d hd => h d (List.mem_cons_of_mem _ hd)
    refine ⟨y :: ys, ?_, by simp [q2], fun z hz => ?_⟩
    · rw [lcR_cons, e1]
      simp only [Option.bind_some, e2, if_true, e3, q1]
    · rcases List.mem_cons.mp hz with rfl | hz
      · exact p
      · exact q3 z hz
theorem mem_rangeD {lo hi : Int} {d : D} (h : d ∈ rangeD lo hi) : ∃ k : Nat, d = .int (lo + k) ∧ lo + k < hi := by
  unfold rangeD at h
  obtain ⟨k, hk, rfl⟩ := List.mem_map.mp h
  exact ⟨k, rfl, by have := List.mem_range.mp hk; omega⟩
end Wd
set_option maxRecDepth 100000
set_option maxHeartbeats 4000000
namespace Wd
open PySem PySem.Spec L2
/- combined: slots 0:kind 1:left 2:right -/
def m_combined : Sm :=
  (sSeq (sIf (xEq (xVar 0) (xC (.str "add")))
  (sRet (xAdd (xVar 1) (xVar 2)))
  sNx)
  (sSeq (sIf (xEq (xVar 0) (xC (.str "sub")))
  (sRet (xSub (xVar 1) (xVar 2)))
  sNx)
  (sSeq (sIf (xEq (xVar 0) (xC (.str "mul")))
  (sRet (xMul (xVar 1) (xVar 2)))
  sNx)
  (sSeq (sIf (xEq (xVar 0) (xC (.str "min")))
  (sRet (xMin2 (xVar 1) (xVar 2)))
  sNx)
  (sRet (xMax2 (xVar 1) (xVar 2)))))))
def f_combined : List D → Option (D × Bool) := runF 3 3 m_combined
/- value_of: slots 0:term 1:values 2:kind -/
def m_value_of (self : List D → Option (D × Bool)) : Sm :=
  (sSeq (sAsg 2 (xIxA (xVar 0) (xC (.int 0))))
  (sSeq (sIf (xEq (xVar 2) (xC (.str "num")))
  (sRet (xIxA (xVar 0) (xC (.int 1))))
  sNx)
  (sSeq (sIf (xEq (xVar 2) (xC (.str "var")))
  (sRet (xIxA (xVar 1) (xIxA (xVar 0) (xC (.int 1)))))
  sNx)
  (sSeq (sIf (xEq (xVar 2) (xC (.str "neg")))
  (sRet (xNeg (xCall (self) [(xIxA (xVar 0) (xC (.int 1))), (xVar 1)])))
  sNx)
  (sRet (xCall (f_combined) [(xVar 2), (xCall (self) [(xIxA (xVar 0) (xC (.int 1))), (xVar 1)]), (xCall (self) [(xIxA (xVar 0) (xC (.int 2))), (xVar 1)])]))))))
def f_value_of : Nat → List D → Option (D × Bool)
  | 0 => fun _ => none
  | k + 1 => runF 2 3 (m_value_of (f_value_of k))
/- can_show: slots 0:plant 1:values 2:reading 3:k 4:sensor -/
def m_can_show : Sm :=
  (sSeq (sIf (xNe (xLen (xVar 2)) (xLen (xIxA (xVar 0) (xC (.int 2)))))
  (sRet (xC (.bool false)))
  sNx)
  (sSeq (sFor (tgN 3) (srcR1 (xLen (xVar 2)))
  (sSeq (sAsg 4 (xIxA (xIxA (xVar 0) (xC (.int 2))) (xVar 3)))
  (sIf (xIs (xIxA (xVar 2) (xVar 3)) (xC .none))
  (sIf (xNot (xIxA (xVar 4) (xC (.int 3))))
  (sRet (xC (.bool false)))
  sNx)
  (sIf (xGt (xAbs (xSub (xIxA (xVar 2) (xVar 3)) (xCall (f_value_of 4) [(xIxA (xVar 4) (xC (.int 1))), (xVar 1)]))) (xIxA (xVar 4) (xC (.int 2))))
  (sRet (xC (.bool false)))
  sNx))))
  (sRet (xC (.bool true)))))
def f_can_show : List D → Option (D × Bool) := runF 3 5 m_can_show
/- options_of: slots 0:sensor 1:values 2:value 3:shown -/
def m_options_of : Sm :=
  (sSeq (sAsg 2 (xCall (f_value_of 4) [(xIxA (xVar 0) (xC (.int 1))), (xVar 1)]))
  (sSeq (sAsg 3 (xLstR (xSub (xVar 2) (xIxA (xVar 0) (xC (.int 2)))) (xAdd (xAdd (xVar 2) (xIxA (xVar 0) (xC (.int 2)))) (xC (.int 1)))))
  (sSeq (sIf (xIxA (xVar 0) (xC (.int 3)))
  (sApp 3 (xC .none))
  sNx)
  (sRetV 3))))
def f_options_of : List D → Option (D × Bool) := runF 2 4 m_options_of
/- count_readings: slots 0:plant 1:values 2:most 3:many 4:sensor -/
def m_count_readings : Sm :=
  (sSeq (sAsg 3 (xC (.int 1)))
  (sSeq (sFor (tgN 4) (srcV (xIxA (xVar 0) (xC (.int 2))))
  (sAsg 3 (xMin2 (xMul (xVar 3) (xAdd (xAdd (xMul (xC (.int 2)) (xIxA (xVar 4) (xC (.int 2)))) (xC (.int 1))) (xIntT (xIxA (xVar 4) (xC (.int 3)))))) (xAdd (xVar 2) (xC (.int 1))))))
  (sRetV 3)))
def f_count_readings : List D → Option (D × Bool) := runF 3 5 m_count_readings
/- readings_at: slots 0:plant 1:values 2:rows 3:sensor 4:options 5:row 6:shown -/
def m_readings_at : Sm :=
  (sSeq (sAsg 2 (xLst [(xTup [])]))
  (sSeq (sFor (tgN 3) (srcV (xIxA (xVar 0) (xC (.int 2))))
  (sSeq (sAsg 4 (xCall (f_options_of) [(xVar 3), (xVar 1)]))
  (sAsg 2 (xLc2 [5, 6] (tgN 5) none (srcV (xVar 2)) [6] (tgN 6) none (srcV (xVar 4)) (xAdd (xVar 5) (xTup [(xVar 6)]))))))
  (sRetV 2)))
def f_readings_at : List D → Option (D × Bool) := runF 2 7 m_readings_at
/- law_cell: slots 0:script 1:k -/
def m_law_cell : Sm :=
  (sSeq (sIf (xLt (xVar 1) (xLen (xVar 0)))
  (sRet (xIxA (xVar 0) (xVar 1)))
  sNx)
  (sRet (xC (.int 0))))
def f_law_cell : List D → Option (D × Bool) := runF 2 2 m_law_cell
/- law_draw: slots 0:script 1:k 2:sizes 3:cell 4:drawn 5:size 6:mixed 7:j -/
def m_law_draw : Sm :=
  (sSeq (sAsg 3 (xCall (f_law_cell) [(xVar 0), (xVar 1)]))
  (sSeq (sIf (xLt (xVar 3) (xC (.int 0)))
  (sAsg 3 (xNeg (xVar 3)))
  sNx)
  (sSeq (sAsg 4 (xLst []))
  (sSeq (sIf (xGe (xVar 3) (xPow (xC (.int 10)) (xC (.int 18))))
  (sSeq (sAsg 3 (xSub (xVar 3) (xPow (xC (.int 10)) (xC (.int 18)))))
  (sSeq (sFor (tgN 5) (srcV (xVar 2))
  (sSeq (sApp 4 (xMod (xVar 3) (xVar 5)))
  (sAsg 3 (xDiv (xVar 3) (xVar 5)))))
  (sRetV 4)))
  sNx)
  (sSeq (sAsg 6 (xMod (xAdd (xAdd (xVar 3) (xC (.int 1))) (xMul (xC (.int 31)) (xVar 1))) (xC (.int 2147483647))))
  (sSeq (sFor (tgN 7) (srcR1 (xLen (xVar 2)))
  (sSeq (sAsg 6 (xMod (xAdd (xAdd (xMul (xVar 6) (xC (.int 48271))) (xC (.int 11))) (xVar 7)) (xC (.int 2147483647))))
  (sSeq (sAsg 6 (xMod (xAdd (xMul (xVar 6) (xC (.int 69621))) (xC (.int 3))) (xC (.int 2147483647))))
  (sApp 4 (xMod (xDiv (xVar 6) (xC (.int 7))) (xIxA (xVar 2) (xVar 7)))))))
  (sRetV 4)))))))
def f_law_draw : List D → Option (D × Bool) := runF 3 8 m_law_draw
/- law_term: slots 0:digits 1:at 2:many 3:kind 4:var 5:num -/
def m_law_term : Sm :=
  (sSeq (sAsg 3 (xMod (xIxA (xVar 0) (xVar 1)) (xC (.int 9))))
  (sSeq (sAsg 4 (xTup [(xC (.str "var")), (xMod (xIxA (xVar 0) (xAdd (xVar 1) (xC (.int 1)))) (xVar 2))]))
  (sSeq (sAsg 5 (xTup [(xC (.str "num")), (xSub (xMod (xIxA (xVar 0) (xAdd (xVar 1) (xC (.int 2)))) (xC (.int 4))) (xC (.int 1)))]))
  (sSeq (sIf (xEq (xVar 3) (xC (.int 0)))
  (sRetV 5)
  sNx)
  (sSeq (sIf (xEq (xVar 3) (xC (.int 1)))
  (sRet (xTup [(xC (.str "add")), (xVar 4), (xVar 5)]))
  sNx)
  (sSeq (sIf (xEq (xVar 3) (xC (.int 2)))
  (sRet (xTup [(xC (.str "sub")), (xVar 5), (xVar 4)]))
  sNx)
  (sSeq (sIf (xEq (xVar 3) (xC (.int 3)))
  (sRet (xTup [(xC (.str "min")), (xTup [(xC (.str "add")), (xVar 4), (xTup [(xC (.str "num")), (xC (.int 1))])]), (xVar 5)]))
  sNx)
  (sSeq (sIf (xEq (xVar 3) (xC (.int 4)))
  (sRet (xTup [(xC (.str "max")), (xVar 4), (xVar 5)]))
  sNx)
  (sSeq (sIf (xEq (xVar 3) (xC (.int 5)))
  (sRet (xTup [(xC (.str "mul")), (xVar 5), (xVar 4)]))
  sNx)
  (sSeq (sIf (xEq (xVar 3) (xC (.int 6)))
  (sRet (xTup [(xC (.str "neg")), (xTup [(xC (.str "var")), (xMod (xIxA (xVar 0) (xAdd (xVar 1) (xC (.int 2)))) (xVar 2))])]))
  sNx)
  (sSeq (sIf (xEq (xVar 3) (xC (.int 7)))
  (sRet (xTup [(xC (.str "sub")), (xVar 4), (xTup [(xC (.str "var")), (xMod (xIxA (xVar 0) (xAdd (xVar 1) (xC (.int 2)))) (xVar 2))])]))
  sNx)
  (sRetV 4))))))))))))
def f_law_term : List D → Option (D × Bool) := runF 3 6 m_law_term
/- law_condition: slots 0:digits 1:at 2:many 3:kind 4:left 5:right -/
def m_law_condition : Sm :=
  (sSeq (sAsg 3 (xMod (xIxA (xVar 0) (xVar 1)) (xC (.int 7))))
  (sSeq (sAsg 4 (xTup [(xC (.str "less")), (xCall (f_law_term) [(xVar 0), (xAdd (xVar 1) (xC (.int 1))), (xVar 2)]), (xCall (f_law_term) [(xVar 0), (xAdd (xVar 1) (xC (.int 4))), (xVar 2)])]))
  (sSeq (sAsg 5 (xTup [(xC (.str "same")), (xTup [(xC (.str "var")), (xMod (xIxA (xVar 0) (xAdd (xVar 1) (xC (.int 5)))) (xVar 2))]), (xTup [(xC (.str "num")), (xSub (xMod (xIxA (xVar 0) (xAdd (xVar 1) (xC (.int 6)))) (xC (.int 3))) (xC (.int 1)))])]))
  (sSeq (sIf (xOr (xEq (xVar 3) (xC (.int 0))) (xEq (xVar 3) (xC (.int 1))))
  (sRet (xTup [(xC (.str "true"))]))
  sNx)
  (sSeq (sIf (xEq (xVar 3) (xC (.int 2)))
  (sRetV 4)
  sNx)
  (sSeq (sIf (xEq (xVar 3) (xC (.int 3)))
  (sRetV 5)
  sNx)
  (sSeq (sIf (xEq (xVar 3) (xC (.int 4)))
  (sRet (xTup [(xC (.str "not")), (xVar 4)]))
  sNx)
  (sSeq (sIf (xEq (xVar 3) (xC (.int 5)))
  (sRet (xTup [(xC (.str "or")), (xVar 4), (xVar 5)]))
  sNx)
  (sRet (xTup [(xC (.str "and")), (xTup [(xC (.str "not")), (xVar 5)]), (xTup [(xC (.str "or")), (xVar 4), (xTup [(xC (.str "false"))])])]))))))))))
def f_law_condition : List D → Option (D × Bool) := runF 3 6 m_law_condition
/- law_move: slots 0:script 1:k 2:at 3:first 4:count 5:many 6:digits 7:settings 8:j 9:low 10:high -/
def m_law_move : Sm :=
  (sSeq (sAsg 6 (xCall (f_law_draw) [(xVar 0), (xVar 1), (xMul (xLst [(xC (.int 9))]) (xC (.int 24)))]))
  (sSeq (sAsg 7 (xLst []))
  (sSeq (sFor (tgN 8) (srcR1 (xVar 4))
  (sIf (xNe (xMod (xIxA (xVar 6) (xAdd (xC (.int 7)) (xVar 8))) (xC (.int 3))) (xC (.int 0)))
  (sSeq (sAsg 9 (xCall (f_law_term) [(xVar 6), (xAdd (xC (.int 9)) (xMul (xC (.int 6)) (xVar 8))), (xVar 5)]))
  (sSeq (sAsg 10 (xVar 9))
  (sSeq (sIf (xEq (xMod (xIxA (xVar 6) (xAdd (xC (.int 7)) (xVar 8))) (xC (.int 3))) (xC (.int 2)))
  (sAsg 10 (xTup [(xC (.str "add")), (xVar 9), (xTup [(xC (.str "num")), (xMod (xIxA (xVar 6) (xAdd (xC (.int 12)) (xMul (xC (.int 6)) (xVar 8)))) (xC (.int 3)))])]))
  sNx)
  (sApp 7 (xTup [(xAdd (xVar 3) (xVar 8)), (xVar 9), (xVar 10)])))))
  sNx))
  (sSeq (sIf (xEq (xMod (xIxA (xVar 6) (xC (.int 22))) (xC (.int 2))) (xC (.int 1)))
  (sAsg 7 (xRev (xVar 7)))
  sNx)
  (sRet (xTup [(xAdd (xC (.str "m")) (xStrI (xVar 2))), (xCall (f_law_condition) [(xVar 6), (xC (.int 0)), (xVar 5)]), (xTuple (xVar 7))]))))))
def f_law_move : List D → Option (D × Bool) := runF 6 11 m_law_move
/- law_sensors: slots 0:script 1:many 2:sensors 3:head 4:j 5:digits -/
def m_law_sensors : Sm :=
  (sSeq (sAsg 2 (xLst []))
  (sSeq (sAsg 3 (xCall (f_law_draw) [(xVar 0), (xC (.int 20)), (xLst [(xC (.int 4))])]))
  (sSeq (sFor (tgN 4) (srcR1 (xIxA (xLst [(xC (.int 1)), (xC (.int 0)), (xC (.int 2)), (xC (.int 1))]) (xIxA (xVar 3) (xC (.int 0)))))
  (sSeq (sAsg 5 (xCall (f_law_draw) [(xVar 0), (xAdd (xC (.int 21)) (xVar 4)), (xLst [(xC (.int 9)), (xC (.int 9)), (xC (.int 9)), (xC (.int 3)), (xC (.int 3))])]))
  (sApp 2 (xTup [(xAdd (xC (.str "s")) (xStrI (xVar 4))), (xCall (f_law_term) [(xVar 5), (xC (.int 0)), (xVar 1)]), (xIxA (xVar 5) (xC (.int 3))), (xEq (xIxA (xVar 5) (xC (.int 4))) (xC (.int 1)))]))))
  (sRetV 2))))
def f_law_sensors : List D → Option (D × Bool) := runF 2 6 m_law_sensors
/- law_plant: slots 0:script 1:head 2:counts 3:many 4:variables 5:parts 6:at 7:p 8:first 9:j 10:size 11:least 12:low 13:high 14:moves -/
def m_law_plant : Sm :=
  (sSeq (sAsg 1 (xCall (f_law_draw) [(xVar 0), (xC (.int 0)), (xLst [(xC (.int 3)), (xC (.int 2)), (xC (.int 2)), (xC (.int 2)), (xC (.int 4)), (xC (.int 4)), (xC (.int 4)), (xC (.int 3))])]))
  (sSeq (sAsg 2 (xSl (xLst [(xAdd (xC (.int 1)) (xIxA (xVar 1) (xC (.int 1)))), (xAdd (xC (.int 1)) (xIxA (xVar 1) (xC (.int 2)))), (xC (.int 1))]) none (some (xAdd (xC (.int 1)) (xMax2 (xC (.int 0)) (xSub (xIxA (xVar 1) (xC (.int 0))) (xIxA (xVar 1) (xC (.int 3)))))))))
  (sSeq (sAsg 3 (xSum (xVar 2)))
  (sSeq (sAsg 4 (xLst []))
  (sSeq (sAsg 5 (xLst []))
  (sSeq (sAsg 6 (xC (.int 1)))
  (sSeq (sFor (tgN 7) (srcR1 (xLen (xVar 2)))
  (sSeq (sAsg 8 (xLen (xVar 4)))
  (sSeq (sFor (tgN 9) (srcR1 (xIxA (xVar 2) (xVar 7)))
  (sSeq (sAsg 10 (xCall (f_law_draw) [(xVar 0), (xVar 6), (xLst [(xC (.int 3)), (xC (.int 3)), (xC (.int 3)), (xC (.int 3))])]))
  (sSeq (sAsg 11 (xSub (xIxA (xVar 10) (xC (.int 0))) (xC (.int 1))))
  (sSeq (sAsg 12 (xAdd (xVar 11) (xMod (xIxA (xVar 10) (xC (.int 2))) (xAdd (xIxA (xVar 10) (xC (.int 1))) (xC (.int 1))))))
  (sSeq (sAsg 13 (xAdd (xVar 12) (xMod (xIxA (xVar 10) (xC (.int 3))) (xAdd (xSub (xAdd (xVar 11) (xIxA (xVar 10) (xC (.int 1)))) (xVar 12)) (xC (.int 1))))))
  (sSeq (sApp 4 (xTup [(xAdd (xAdd (xAdd (xC (.str "p")) (xStrI (xVar 7))) (xC (.str ".v"))) (xStrI (xVar 9))), (xVar 11), (xAdd (xVar 11) (xIxA (xVar 10) (xC (.int 1)))), (xVar 12), (xVar 13)]))
  (sAsg 6 (xAdd (xVar 6) (xC (.int 1))))))))))
  (sSeq (sAsg 14 (xLst []))
  (sSeq (sFor (tgN 9) (srcR1 (xAdd (xC (.int 1)) (xMod (xIxA (xVar 1) (xAdd (xC (.int 4)) (xMod (xVar 7) (xC (.int 3))))) (xC (.int 4)))))
  (sSeq (sApp 14 (xCall (f_law_move) [(xVar 0), (xVar 6), (xVar 9), (xVar 8), (xIxA (xVar 2) (xVar 7)), (xVar 3)]))
  (sAsg 6 (xAdd (xVar 6) (xC (.int 1))))))
  (sApp 5 (xTup [(xAdd (xC (.str "p")) (xStrI (xVar 7))), (xVar 8), (xIxA (xVar 2) (xVar 7)), (xTuple (xVar 14))])))))))
  (sRet (xTup [(xTuple (xVar 4)), (xTuple (xVar 5)), (xTuple (xCall (f_law_sensors) [(xVar 0), (xVar 3)]))])))))))))
def f_law_plant : List D → Option (D × Bool) := runF 1 15 m_law_plant
/- law_value: slots 0:term 1:values 2:kind 3:left 4:right -/
def m_law_value (self : List D → Option (D × Bool)) : Sm :=
  (sSeq (sAsg 2 (xIxA (xVar 0) (xC (.int 0))))
  (sSeq (sIf (xEq (xVar 2) (xC (.str "num")))
  (sRet (xIxA (xVar 0) (xC (.int 1))))
  sNx)
  (sSeq (sIf (xEq (xVar 2) (xC (.str "var")))
  (sRet (xIxA (xVar 1) (xIxA (xVar 0) (xC (.int 1)))))
  sNx)
  (sSeq (sIf (xEq (xVar 2) (xC (.str "neg")))
  (sRet (xSub (xC (.int 0)) (xCall (self) [(xIxA (xVar 0) (xC (.int 1))), (xVar 1)])))
  sNx)
  (sSeq (sAsg 3 (xCall (self) [(xIxA (xVar 0) (xC (.int 1))), (xVar 1)]))
  (sSeq (sAsg 4 (xCall (self) [(xIxA (xVar 0) (xC (.int 2))), (xVar 1)]))
  (sSeq (sIf (xEq (xVar 2) (xC (.str "add")))
  (sRet (xAdd (xVar 3) (xVar 4)))
  sNx)
  (sSeq (sIf (xEq (xVar 2) (xC (.str "sub")))
  (sRet (xSub (xVar 3) (xVar 4)))
  sNx)
  (sSeq (sIf (xEq (xVar 2) (xC (.str "mul")))
  (sRet (xMul (xVar 3) (xVar 4)))
  sNx)
  (sSeq (sIf (xEq (xEq (xVar 2) (xC (.str "min"))) (xLt (xVar 3) (xVar 4)))
  (sRetV 3)
  sNx)
  (sRetV 4)))))))))))
def f_law_value : Nat → List D → Option (D × Bool)
  | 0 => fun _ => none
  | k + 1 => runF 2 5 (m_law_value (f_law_value k))
/- law_box: slots 0:rows 1:choices 2:out 3:row 4:choice -/
def m_law_box : Sm :=
  (sSeq (sAsg 2 (xLst []))
  (sSeq (sFor (tgN 3) (srcV (xVar 0))
  (sFor (tgN 4) (srcV (xVar 1))
  (sApp 2 (xAdd (xVar 3) (xTup [(xVar 4)])))))
  (sRetV 2)))
def f_law_box : List D → Option (D × Bool) := runF 2 5 m_law_box
/- law_alike: slots 0:actual 1:expected 2:k -/
def m_law_alike (self : List D → Option (D × Bool)) : Sm :=
  (sSeq (sIf (xIs (xVar 1) (xC .none))
  (sRet (xIs (xVar 0) (xC .none)))
  sNx)
  (sSeq (sIf (xIsT .bool (xVar 1))
  (sRet (xAnd (xIsT .bool (xVar 0)) (xEq (xVar 0) (xVar 1))))
  sNx)
  (sSeq (sIf (xIsT .int (xVar 1))
  (sRet (xAnd (xIsT .int (xVar 0)) (xAnd (xNot (xIsT .bool (xVar 0))) (xEq (xVar 0) (xVar 1)))))
  sNx)
  (sSeq (sIf (xIsT .str (xVar 1))
  (sRet (xAnd (xIsT .str (xVar 0)) (xEq (xVar 0) (xVar 1))))
  sNx)
  (sSeq (sIf (xAnd (xIsT .tuple (xVar 1)) (xNot (xIsT .tuple (xVar 0))))
  (sRet (xC (.bool false)))
  sNx)
  (sSeq (sIf (xAnd (xIsT .list (xVar 1)) (xNot (xIsT .list (xVar 0))))
  (sRet (xC (.bool false)))
  sNx)
  (sSeq (sIf (xNe (xLen (xVar 0)) (xLen (xVar 1)))
  (sRet (xC (.bool false)))
  sNx)
  (sSeq (sFor (tgN 2) (srcR1 (xLen (xVar 1)))
  (sIf (xNot (xCall (self) [(xIxA (xVar 0) (xVar 2)), (xIxA (xVar 1) (xVar 2))]))
  (sRet (xC (.bool false)))
  sNx))
  (sRet (xC (.bool true)))))))))))
def f_law_alike : Nat → List D → Option (D × Bool)
  | 0 => fun _ => none
  | k + 1 => runF 2 3 (m_law_alike (f_law_alike k))
/- law_shows: slots 0:plant 1:values 2:reading 3:k 4:value -/
def m_law_shows : Sm :=
  (sSeq (sIf (xNe (xLen (xVar 2)) (xLen (xIxA (xVar 0) (xC (.int 2)))))
  (sRet (xC (.bool false)))
  sNx)
  (sSeq (sFor (tgN 3) (srcR1 (xLen (xVar 2)))
  (sSeq (sAsg 4 (xCall (f_law_value 4) [(xIxA (xIxA (xIxA (xVar 0) (xC (.int 2))) (xVar 3)) (xC (.int 1))), (xVar 1)]))
  (sIf (xIs (xIxA (xVar 2) (xVar 3)) (xC .none))
  (sIf (xNot (xIxA (xIxA (xIxA (xVar 0) (xC (.int 2))) (xVar 3)) (xC (.int 3))))
  (sRet (xC (.bool false)))
  sNx)
  (sIf (xOr (xLt (xIxA (xVar 2) (xVar 3)) (xSub (xVar 4) (xIxA (xIxA (xIxA (xVar 0) (xC (.int 2))) (xVar 3)) (xC (.int 2))))) (xGt (xIxA (xVar 2) (xVar 3)) (xAdd (xVar 4) (xIxA (xIxA (xIxA (xVar 0) (xC (.int 2))) (xVar 3)) (xC (.int 2))))))
  (sRet (xC (.bool false)))
  sNx))))
  (sRet (xC (.bool true)))))
def f_law_shows : List D → Option (D × Bool) := runF 3 5 m_law_shows
/- law_readings: slots 0:plant 1:values 2:rows 3:sensor 4:value 5:options -/
def m_law_readings : Sm :=
  (sSeq (sAsg 2 (xLst [(xTup [])]))
  (sSeq (sFor (tgN 3) (srcV (xIxA (xVar 0) (xC (.int 2))))
  (sSeq (sAsg 4 (xCall (f_law_value 4) [(xIxA (xVar 3) (xC (.int 1))), (xVar 1)]))
  (sSeq (sAsg 5 (xLstR (xSub (xVar 4) (xIxA (xVar 3) (xC (.int 2)))) (xAdd (xAdd (xVar 4) (xIxA (xVar 3) (xC (.int 2)))) (xC (.int 1)))))
  (sSeq (sIf (xIxA (xVar 3) (xC (.int 3)))
  (sAsg 5 (xAdd (xVar 5) (xLst [(xC .none)])))
  sNx)
  (sAsg 2 (xCall (f_law_box) [(xVar 2), (xVar 5)]))))))
  (sRetV 2)))
def f_law_readings : List D → Option (D × Bool) := runF 2 6 m_law_readings
/- law: slots 0:script 1:plant 2:digits 3:values 4:due 5:choice 6:most 7:first 8:wide 9:many 10:sensor 11:reading 12:k -/
def m_law : Sm :=
  (sSeq (sAsg 1 (xCall (f_law_plant) [(xVar 0)]))
  (sSeq (sAsg 2 (xCall (f_law_draw) [(xVar 0), (xC (.int 30)), (xMul (xLst [(xC (.int 3))]) (xLen (xIxA (xVar 1) (xC (.int 0)))))]))
  (sSeq (sAsg 3 (xTuple (xLc [12] (tgN 12) none (srcR1 (xLen (xVar 2))) (xAdd (xIxA (xIxA (xIxA (xVar 1) (xC (.int 0))) (xVar 12)) (xC (.int 1))) (xMod (xIxA (xVar 2) (xVar 12)) (xAdd (xSub (xIxA (xIxA (xIxA (xVar 1) (xC (.int 0))) (xVar 12)) (xC (.int 2))) (xIxA (xIxA (xIxA (xVar 1) (xC (.int 0))) (xVar 12)) (xC (.int 1)))) (xC (.int 1))))))))
  (sSeq (sAsg 4 (xCall (f_law_readings) [(xVar 1), (xVar 3)]))
  (sSeq (sAsg 5 (xCall (f_law_draw) [(xVar 0), (xC (.int 31)), (xLst [(xC (.int 5)), (xC (.int 97)), (xC (.int 9)), (xC (.int 9)), (xC (.int 60)), (xC (.int 4)), (xC (.int 1001))])]))
  (sSeq (sIf (xNot (xCall (f_law_alike 6) [(xCall (f_readings_at) [(xVar 1), (xVar 3)]), (xVar 4)]))
  (sRet (xC (.bool false)))
  sNx)
  (sSeq (sAsg 6 (xAdd (xC (.int 1)) (xIxA (xVar 5) (xC (.int 4)))))
  (sSeq (sIf (xNot (xCall (f_law_alike 6) [(xCall (f_count_readings) [(xVar 1), (xVar 3), (xVar 6)]), (xMin2 (xLen (xVar 4)) (xAdd (xVar 6) (xC (.int 1))))]))
  (sRet (xC (.bool false)))
  sNx)
  (sSeq (sIf (xAnd (xEq (xIxA (xVar 5) (xC (.int 5))) (xC (.int 1))) (xGt (xLen (xIxA (xVar 1) (xC (.int 2)))) (xC (.int 0))))
  (sSeq (sAsg 7 (xIxA (xIxA (xVar 1) (xC (.int 2))) (xC (.int 0))))
  (sSeq (sAsg 8 (xTup [(xIxA (xVar 1) (xC (.int 0))), (xIxA (xVar 1) (xC (.int 1))), (xAdd (xTup [(xTup [(xIxA (xVar 7) (xC (.int 0))), (xIxA (xVar 7) (xC (.int 1))), (xIxA (xVar 5) (xC (.int 6))), (xIxA (xVar 7) (xC (.int 3)))])]) (xSl (xIxA (xVar 1) (xC (.int 2))) (some (xC (.int 1))) none))]))
  (sSeq (sAsg 9 (xC (.int 1)))
  (sSeq (sFor (tgN 10) (srcV (xIxA (xVar 8) (xC (.int 2))))
  (sAsg 9 (xMul (xVar 9) (xAdd (xAdd (xMul (xC (.int 2)) (xIxA (xVar 10) (xC (.int 2)))) (xC (.int 1))) (xIntT (xIxA (xVar 10) (xC (.int 3))))))))
  (sIf (xNot (xCall (f_law_alike 6) [(xCall (f_count_readings) [(xVar 8), (xVar 3), (xVar 6)]), (xMin2 (xVar 9) (xAdd (xVar 6) (xC (.int 1))))]))
  (sRet (xC (.bool false)))
  sNx)))))
  sNx)
  (sSeq (sAsg 11 (xList (xIxA (xVar 4) (xMod (xIxA (xVar 5) (xC (.int 1))) (xLen (xVar 4))))))
  (sSeq (sIf (xAnd (xEq (xIxA (xVar 5) (xC (.int 0))) (xC (.int 1))) (xGt (xLen (xVar 11)) (xC (.int 0))))
  (sSetI 11 (xMod (xIxA (xVar 5) (xC (.int 2))) (xLen (xVar 11))) (xSub (xIxA (xVar 5) (xC (.int 3))) (xC (.int 4))))
  sNx)
  (sSeq (sIf (xAnd (xEq (xIxA (xVar 5) (xC (.int 0))) (xC (.int 2))) (xGt (xLen (xVar 11)) (xC (.int 0))))
  (sSetI 11 (xMod (xIxA (xVar 5) (xC (.int 2))) (xLen (xVar 11))) (xC .none))
  sNx)
  (sSeq (sIf (xEq (xIxA (xVar 5) (xC (.int 0))) (xC (.int 3)))
  (sApp 11 (xSub (xIxA (xVar 5) (xC (.int 3))) (xC (.int 4))))
  sNx)
  (sSeq (sIf (xAnd (xEq (xIxA (xVar 5) (xC (.int 0))) (xC (.int 4))) (xGt (xLen (xVar 11)) (xC (.int 0))))
  (sPop 11)
  sNx)
  (sRet (xCall (f_law_alike 6) [(xCall (f_can_show) [(xVar 1), (xVar 3), (xTuple (xVar 11))]), (xCall (f_law_shows) [(xVar 1), (xVar 3), (xVar 11)])]))))))))))))))))
def f_law : List D → Option (D × Bool) := runF 1 13 m_law
end Wd
namespace Wd
open PySem PySem.Spec L2
theorem cell_is (ns : List Int) (k : Nat) : ∃ c, f_law_cell [scrD ns, .int k] = some (.int c, false) := by
  by_cases h : k < ns.length
  · refine ⟨ns[k], ?_⟩
    simp [f_law_cell, m_law_cell, runF_ap, atI_n, h]
  · refine ⟨0, ?_⟩
    simp [f_law_cell, m_law_cell, runF_ap, h]
/-- the digits that are drawn -/
def Digs (sizes ds : List Int) : Prop := ds.length = sizes.length ∧ ∀ j (h : j < ds.length) (h' : j < sizes.length), 0 ≤ ds[j] ∧ ds[j] < sizes[j]
theorem Digs.snoc {s d : List Int} {z : Int} (h : Digs (s.take d.length) d) (hl : d.length < s.length) (h0 : 0 ≤ z) (h1 : z < s[d.length]) : Digs (s.take (d ++ [z]).length) (d ++ [z]) := by
  refine ⟨by simp; omega, fun j a b => ?_⟩
  simp only [List.getElem_take]
  by_cases hj : j < d.length
  · rw [List.getElem_append_left hj]
    have := h.2 j hj (by rw [h.1] at hj; exact hj)
    simpa using this
  · have : j = d.length := by simp at a; omega
    subst this
    simpa using ⟨h0, h1⟩
theorem draw_is (ns sizes : List Int) (k : Nat) (hp : ∀ s ∈ sizes, 0 < s) (hb : ∀ s ∈ sizes, s < 2 ^ 64) (hl : sizes.length ≤ 1000) : ∃ ds, f_law_draw [scrD ns, .int k, .list (sizes.map .int)] = some (.list (ds.map .int), true) ∧ Digs sizes ds := by
  obtain ⟨c0, hc⟩ := cell_is ns k
  -- the two loops
  have L1 : ∀ (a b : C) (c : Int) , ∃ c' ds sz, forR (tgN 5) (sSeq (sApp 4 (xMod (xVar 3) (xVar 5))) (sAsg 3 (xDiv (xVar 3) (xVar 5)))) (sizes.map .int) [a, b, .val (.list (sizes.map .int)), .val (.int c), .own (.list []), .un, .un, .un] = some (.nx [a, b, .val (.list (sizes.map .int)), .val (.int c'), .own (.list (ds.map .int)), sz, .un, .un]) ∧ Digs sizes ds := by
    intro a b c
    obtain ⟨ρ', e, c', ds, sz, rfl, hd, hl'⟩ := forR_run (tg := tgN 5) (m := sSeq (sApp 4 (xMod (xVar 3) (xVar 5))) (sAsg 3 (xDiv (xVar 3) (xVar 5)))) (ds := sizes.map .int) (ρ := [a, b, .val (.list (sizes.map .int)), .val (.int c), .own (.list []), .un, .un, .un])
      (fun j ρ => ∃ (c' : Int) (ds : List Int) (sz : C), ρ = [a, b, .val (.list (sizes.map .int)), .val (.int c'), .own (.list (ds.map .int)), sz, .un, .un] ∧ Digs (sizes.take ds.length) ds ∧ ds.length = j)
      ⟨c, [], .un, rfl, ⟨by simp, fun j h => by simp at h⟩, rfl⟩
      (fun j hj ρ => by
        rintro ⟨c', ds, sz, rfl, hd, hl'⟩
        subst hl'
        have hj' : ds.length < sizes.length := by simpa using hj
        have p := hp _ (List.getElem_mem hj')
        have q := hb _ (List.getElem_mem hj')
        have dv : divOk c' sizes[ds.length] = true := divOk_b (b := 64) (by omega) (by omega) (by omega) (by omega)
        refine ⟨_, _, rfl, .inl ?_, c' / sizes[ds.length], ds ++ [c' % sizes[ds.length]], .val (.int sizes[ds.length]), rfl, hd.snoc hj' (Int.emod_nonneg _ (by omega)) (Int.emod_lt_of_pos _ p), by simp⟩
        simp [modOk_b p, dv, show ds.length < LIM by show _ < 10000000; omega, fdv, p])
    refine ⟨c', ds, sz, e, ?_⟩
    rw [hl'] at hd
    simpa using hd
  have L2 : ∀ (a b cc : C) (m : Int) , ∃ m' ds sz, forR (tgN 7) (sSeq (sAsg 6 (xMod (xAdd (xAdd (xMul (xVar 6) (xC (.int 48271))) (xC (.int 11))) (xVar 7)) (xC (.int 2147483647))))
    (sSeq (sAsg 6 (xMod (xAdd (xMul (xVar 6) (xC (.int 69621))) (xC (.int 3))) (xC (.int 2147483647))))
    (sApp 4 (xMod (xDiv (xVar 6) (xC (.int 7))) (xIxA (xVar 2) (xVar 7)))))) (rangeD 0 sizes.length) [a, b, .val (.list (sizes.map .int)), cc, .own (.list []), .un, .val (.int m), .un] = some (.nx [a, b, .val (.list (sizes.map .int)), cc, .own (.list (ds.map .int)), .un, .val (.int m'), sz]) ∧ Digs sizes ds := by
    intro a b cc m
    obtain ⟨ρ', e, m', ds, sz, rfl, hd, hl'⟩ := forR_run (tg := tgN 7) (m := (sSeq (sAsg 6 (xMod (xAdd (xAdd (xMul (xVar 6) (xC (.int 48271))) (xC (.int 11))) (xVar 7)) (xC (.int 2147483647))))
    (sSeq (sAsg 6 (xMod (xAdd (xMul (xVar 6) (xC (.int 69621))) (xC (.int 3))) (xC (.int 2147483647))))
    (sApp 4 (xMod (xDiv (xVar 6) (xC (.int 7))) (xIxA (xVar 2) (xVar 7))))))) (ds := rangeD 0 sizes.length) (ρ := [a, b, .val (.list (sizes.map .int)), cc, .own (.list []), .un, .val (.int m), .un])
      (fun j ρ => ∃ (m' : Int) (ds : List Int) (sz : C), ρ = [a, b, .val (.list (sizes.map .int)), cc, .own (.list (ds.map .int)), .un, .val (.int m'), sz] ∧ Digs (sizes.take ds.length) ds ∧ ds.length = j)
      ⟨m, [], .un, rfl, ⟨by simp, fun j h => by simp at h⟩, rfl⟩
      (fun j hj ρ => by
        rintro ⟨m', ds, sz, rfl, hd, hl'⟩
        subst hl'
        rw [rangeD0_get hj]
        have hj' : ds.length < sizes.length := by simpa [rangeD_len] using hj
        have p := hp _ (List.getElem_mem hj')
        have g : sizes[ds.length]? = some sizes[ds.length] := List.getElem?_eq_getElem hj'
        have M : ∀ i : Int, mulOk i 48271 = true := fun i => mulOk_r (by decide)
        have M' : ∀ i : Int, mulOk i 69621 = true := fun i => mulOk_r (by decide)
        have N : ∀ i : Int, modOk i 2147483647 = true := fun i => modOk_b (by decide)
        have N' : ∀ i : Int, divOk i 7 = true := fun i => divOk_b (b := 3) (by decide) (by decide) (by decide) (by decide)
        refine ⟨_, _, rfl, .inl ?_, (((m' * 48271 + 11 + ds.length) % 2147483647) * 69621 + 3) % 2147483647, ds ++ [(((((m' * 48271 + 11 + ds.length) % 2147483647) * 69621 + 3) % 2147483647) / 7) % sizes[ds.length]], .val (.int ds.length), rfl, hd.snoc hj' (Int.emod_nonneg _ (by omega)) (Int.emod_lt_of_pos _ p), by simp⟩
        simp [M, M', N, N', atI_n, g, modOk_b p, show ds.length < LIM by show _ < 10000000; omega, fdv])
    refine ⟨m', ds, sz, e, ?_⟩
    rw [hl'] at hd
    have : (rangeD 0 (sizes.length : Int)).length = sizes.length := by rw [rangeD_len]; omega
    rw [this] at hd
    simpa using hd
  have pw : powOk 10 18 = true := by decide
  have lim0 : 0 ≤ LIM := Nat.zero_le _
  have key : ∀ c : Int, ∃ ds, (sSeq (sAsg 4 (xLst []))
  (sSeq (sIf (xGe (xVar 3) (xPow (xC (.int 10)) (xC (.int 18))))
  (sSeq (sAsg 3 (xSub (xVar 3) (xPow (xC (.int 10)) (xC (.int 18)))))
  (sSeq (sFor (tgN 5) (srcV (xVar 2))
  (sSeq (sApp 4 (xMod (xVar 3) (xVar 5)))
  (sAsg 3 (xDiv (xVar 3) (xVar 5)))))
  (sRetV 4)))
  sNx)
  (sSeq (sAsg 6 (xMod (xAdd (xAdd (xVar 3) (xC (.int 1))) (xMul (xC (.int 31)) (xVar 1))) (xC (.int 2147483647))))
  (sSeq (sFor (tgN 7) (srcR1 (xLen (xVar 2)))
  (sSeq (sAsg 6 (xMod (xAdd (xAdd (xMul (xVar 6) (xC (.int 48271))) (xC (.int 11))) (xVar 7)) (xC (.int 2147483647))))
  (sSeq (sAsg 6 (xMod (xAdd (xMul (xVar 6) (xC (.int 69621))) (xC (.int 3))) (xC (.int 2147483647))))
  (sApp 4 (xMod (xDiv (xVar 6) (xC (.int 7))) (xIxA (xVar 2) (xVar 7)))))))
  (sRetV 4))))) [.val (scrD ns), .val (.int k), .val (.list (sizes.map .int)), .val (.int c), .un, .un, .un, .un] = some (.rt (.list (ds.map .int)) true) ∧ Digs sizes ds := by
    intro c
    by_cases hc : (10 : Int) ^ 18 ≤ c
    · obtain ⟨c', ds, sz, e, h⟩ := L1 (.val (scrD ns)) (.val (.int k)) (c - 10 ^ 18)
      refine ⟨ds, ?_, h⟩
      have hc' : (1000000000000000000 : Int) ≤ c := hc
      have e' := e
      simp at e'
      simp [pw, lim0, hc', settle_cons, imm, immTop]
      rw [e']
      simp
    · obtain ⟨m', ds, sz, e, h⟩ := L2 (.val (scrD ns)) (.val (.int k)) (.val (.int c)) ((c + 1 + 31 * k) % 2147483647)
      refine ⟨ds, ?_, h⟩
      have hc' : ¬ (1000000000000000000 : Int) ≤ c := hc
      have M : mulOk 31 (k : Int) = true := mulOk_l (by decide)
      have N : ∀ i : Int, modOk i 2147483647 = true := fun i => modOk_b (by decide)
      have R : rgOk (sizes.length : Int) = true := rgOk_n (by omega)
      have e' := e
      simp at e'
      simp [pw, lim0, hc', M, N, R]
      rw [e']
      simp
  obtain ⟨ds, e, h⟩ := key (if c0 < 0 then -c0 else c0)
  refine ⟨ds, ?_, h⟩
  refine run_of rfl ?_
  show m_law_draw [.val (scrD ns), .val (.int k), .val (.list (sizes.map .int)), .un, .un, .un, .un, .un] = _
  unfold m_law_draw
  rw [sSeq_go (ρ' := [.val (scrD ns), .val (.int k), .val (.list (sizes.map .int)), .val (.int c0), .un, .un, .un, .un]) (by simp [hc])]
  rw [sSeq_go (ρ' := [.val (scrD ns), .val (.int k), .val (.list (sizes.map .int)), .val (.int (if c0 < 0 then -c0 else c0)), .un, .un, .un, .un]) (by by_cases h0 : c0 < 0 <;> simp [h0])]
  exact e
/-- data without dicts, of depth under n -/
def plainN : Nat → D → Prop
  | 0, _ => False
  | n + 1, .tuple ds => ds.length ≤ 10000000 ∧ ∀ x ∈ ds, plainN n x
  | n + 1, .list ds => ds.length ≤ 10000000 ∧ ∀ x ∈ ds, plainN n x
  | _ + 1, .dict _ => False
  | _ + 1, _ => True
theorem alike_self {n : Nat} {d : D} (h : plainN n d) : f_law_alike n [d, d] = some (.bool true, false) := by
  induction n generalizing d with
  | zero => exact h.elim
  | succ n ih =>
    have loop : ∀ (x : D) (ds : List D), (dLen x = some (.int ds.length)) → (∀ i, dIxA x (.int i) = atI ds i) → ds.length ≤ 10000000 → (∀ y ∈ ds, plainN n y) → ∃ ρ', forR (tgN 2) (sIf (xNot (xCall (f_law_alike n) [(xIxA (xVar 0) (xVar 2)), (xIxA (xVar 1) (xVar 2))]))
  (sRet (xC (.bool false)))
  sNx) (rangeD 0 ds.length) [.val x, .val x, .un] = some (.nx ρ') := by
      intro x ds h1 h2 h3 h4
      obtain ⟨ρ', e, _⟩ := forR_run (tg := tgN 2) (m := sIf (xNot (xCall (f_law_alike n) [(xIxA (xVar 0) (xVar 2)), (xIxA (xVar 1) (xVar 2))]))
  (sRet (xC (.bool false)))
  sNx) (ds := rangeD 0 ds.length) (ρ := [.val x, .val x, .un]) (fun _ ρ => ∃ z, ρ = [.val x, .val x, z]) ⟨_, rfl⟩ (fun j hj ρ => by
        rintro ⟨z, rfl⟩
        rw [rangeD0_get hj]
        have hj' : j < ds.length := by rw [rangeD_len] at hj; omega
        refine ⟨_, _, rfl, .inl ?_, .val (.int j), rfl⟩
        have g : ds[j]? = some ds[j] := List.getElem?_eq_getElem hj'
        simp [h2, atI_n, g, ih (h4 _ (List.getElem_mem hj'))])
      exact ⟨ρ', e⟩
    cases d with
    | none => simp [f_law_alike, m_law_alike, runF_ap]
    | bool b => simp [f_law_alike, m_law_alike, runF_ap, dIsT, isT]
    | int b => simp [f_law_alike, m_law_alike, runF_ap, dIsT, isT]
    | str b => simp [f_law_alike, m_law_alike, runF_ap, dIsT, isT]
    | dict b => exact h.elim
    | tuple ds =>
      obtain ⟨h1, h2⟩ := h
      obtain ⟨ρ', e⟩ := loop (.tuple ds) ds rfl (fun _ => rfl) h1 h2
      have R : rgOk (ds.length : Int) = true := rgOk_n h1
      simp at e
      simp [f_law_alike, m_law_alike, runF_ap, dIsT, isT, R, e]
    | list ds =>
      obtain ⟨h1, h2⟩ := h
      obtain ⟨ρ', e⟩ := loop (.list ds) ds rfl (fun _ => rfl) h1 h2
      have R : rgOk (ds.length : Int) = true := rgOk_n h1
      simp at e
      simp [f_law_alike, m_law_alike, runF_ap, dIsT, isT, R, e]
end Wd
namespace Wd
open PySem PySem.Spec L2
theorem Digs.get {s d : List Int} (h : Digs s d) {j : Nat} {z : Int} (hz : s[j]? = some z) : ∃ y, d[j]? = some y ∧ 0 ≤ y ∧ y < z := by
  obtain ⟨hj, e⟩ := List.getElem?_eq_some_iff.mp hz
  have hj' : j < d.length := by rw [h.1]; exact hj
  refine ⟨d[j], List.getElem?_eq_getElem hj', ?_⟩
  have := h.2 j hj' hj
  rwa [e] at this
theorem dMul_li {xs : List D} {n : Nat} (h : n ≤ 10000000) (h' : xs.length * n ≤ 10000000) : dMulA (.list xs) (.int n) = some (.list (List.replicate n xs).flatten, true) := by
  show (if (n : Int).natAbs ≤ LIM ∧ xs.length * (n : Int).toNat ≤ LIM then some (PyData.list (List.replicate (n : Int).toNat xs).flatten, true) else none) = _
  rw [if_pos ⟨by simpa using h, by simpa using h'⟩]
  rfl
theorem flat1 {x : D} {n : Nat} : (List.replicate n [x]).flatten = List.replicate n x := by
  induction n with
  | zero => rfl
  | succ n ih => rw [List.replicate_succ, List.flatten_cons, ih, List.replicate_succ]; rfl
/-- forty digits -/
def Digits (N : Nat) (B : Int) (ds : List Int) : Prop := ds.length = N ∧ ∀ j (_ : j < N), ∃ y, ds[j]? = some y ∧ 0 ≤ y ∧ y < B
theorem digits_of_rep {N : Nat} {B : Int} {ds : List Int} (h : Digs (List.replicate N B) ds) : Digits N B ds := by
  refine ⟨by rw [h.1, List.length_replicate], fun j hj => ?_⟩
  exact h.get (by rw [List.getElem?_replicate, if_pos hj])
theorem Digits.at {N : Nat} {B : Int} {ds : List Int} (h : Digits N B ds) (hN : 0 < N) (i : Int) : ∃ y, atI (ds.map PyData.int) (i % (N : Int)) = some (.int y) ∧ 0 ≤ y ∧ y < B := by
  have h0 := Int.emod_nonneg i (show (N : Int) ≠ 0 by omega)
  have h1 := Int.emod_lt_of_pos i (show 0 < (N : Int) by omega)
  obtain ⟨k, hk⟩ : ∃ k : Nat, i % (N : Int) = k := ⟨(i % (N : Int)).toNat, by omega⟩
  obtain ⟨y, e, h2⟩ := h.2 k (by omega)
  refine ⟨y, ?_, h2⟩
  rw [hk, atI_n, List.getElem?_map, e]
  rfl
theorem lc_sub {v : Nat} {c : Int} {ds : List Int} {ρ : Rho} (h : ∀ d : Int, getR (ρ.set v (.val (.int d))) v = some (.int d)) : lcR (tgN v) (ttR none) (xSub (xVar v) (xC (.int c))).ev ρ (ds.map .int) = some (ds.map fun x => .int (x - c)) := by
  have := lcR_map (tg := tgN v) (tt := ttR none) (el := (xSub (xVar v) (xC (.int c))).ev) (ρ := ρ) (ds := ds.map .int) (f := fun d => match d with | .int x => .int (x - c) | d => d) (fun d hd => by
    obtain ⟨x, hx, rfl⟩ := List.mem_map.mp hd
    exact ⟨_, false, rfl, rfl, by simp [h]⟩)
  rw [this, List.map_map]
  rfl
theorem Digits.mem {N : Nat} {B : Int} {ds : List Int} (h : Digits N B ds) {x : Int} (hx : x ∈ ds) : 0 ≤ x ∧ x < B := by
  obtain ⟨j, hj, rfl⟩ := List.mem_iff_getElem.mp hx
  obtain ⟨z, e, z0, z1⟩ := h.2 j (by rw [← h.1]; exact hj)
  rw [List.getElem?_eq_getElem hj] at e
  injection e with e
  omega
theorem drawn_rep (ns : List Int) (k N : Nat) (B : Int) (hB : 0 < B) (hB' : B < 2 ^ 64) (hN : N ≤ 1000) : ∃ ds, f_law_draw [scrD ns, .int k, .list (List.replicate N (.int B))] = some (.list (ds.map .int), true) ∧ Digits N B ds := by
  obtain ⟨ds, e, h⟩ := draw_is ns (List.replicate N B) k (fun s hs => by rw [List.eq_of_mem_replicate hs]; exact hB) (fun s hs => by rw [List.eq_of_mem_replicate hs]; exact hB') (by simpa using hN)
  rw [List.map_replicate] at e
  exact ⟨ds, e, digits_of_rep h⟩
theorem dMul_rep {x : D} {n : Nat} (h : n ≤ 10000000) : dMulA (.list [x]) (.int n) = some (.list (List.replicate n x), true) := by rw [dMul_li h (by simpa using h), flat1]
end Wd
namespace Wd
open PySem PySem.Spec L2
/-- values of variables -/
def Vals (m : Int) (vs : List Int) : Prop := (vs.length : Int) = m ∧ ∀ v ∈ vs, v.natAbs < 2 ^ 3
inductive TD (m : Int) : Nat → D → Prop
  | var {n i} : 0 ≤ i → i < m → TD m n (.tuple [.str "var", .int i])
  | num {n z} : z.natAbs < 2 ^ 3 → TD m n (.tuple [.str "num", .int z])
  | neg {n t} : TD m n t → TD m (n + 1) (.tuple [.str "neg", t])
  | bin {n l r} (k : Str) : k = "add" ∨ k = "sub" ∨ k = "mul" ∨ k = "min" ∨ k = "max" → TD m n l → TD m n r → TD m (n + 1) (.tuple [.str k, l, r])
def Bd : Nat → Nat
  | 0 => 2 ^ 3
  | n + 1 => Bd n * Bd n
theorem Bd_pow (n : Nat) : Bd n = 2 ^ (3 * 2 ^ n) := by
  induction n with
  | zero => rfl
  | succ n ih => rw [Bd, ih, ← Nat.pow_add]; congr 1; rw [Nat.pow_succ]; omega
theorem Bd_two (n : Nat) : 2 ^ 3 ≤ Bd n := by
  rw [Bd_pow]
  exact Nat.pow_le_pow_right (by decide) (by have : 0 < 2 ^ n := Nat.pow_pos (by decide); omega)
theorem Bd_mul (n : Nat) {x y : Nat} (hx : x < Bd n) (hy : y < Bd n) : x * y < Bd (n + 1) := by
  rw [Bd]
  have : 0 < Bd n := by omega
  exact Nat.lt_of_le_of_lt (Nat.mul_le_mul_right y (Nat.le_of_lt hx)) (Nat.mul_lt_mul_of_pos_left hy this)
theorem Bd_add (n : Nat) : Bd n + Bd n ≤ Bd (n + 1) := by
  have h := Bd_two n
  rw [Bd, ← Nat.two_mul]
  exact Nat.mul_le_mul_right _ (by omega)
theorem Bd_ok {n : Nat} (hn : n ≤ 8) {x y : Int} (hx : x.natAbs < Bd n) (hy : y.natAbs < Bd n) : mulOk x y = true := by
  rw [Bd_pow] at hx hy
  have : 2 ^ n ≤ 2 ^ 8 := Nat.pow_le_pow_right (by decide) hn
  have h0 : 0 < 2 ^ n := Nat.pow_pos (by decide)
  exact mulOk_b hx hy (by omega) (by omega) (by omega)
theorem atI_get {vs : List Int} {m i : Int} (hv : (vs.length : Int) = m) (h0 : 0 ≤ i) (h1 : i < m) : ∃ v ∈ vs, atI (vs.map PyData.int) i = some (.int v) := by
  obtain ⟨k, rfl⟩ : ∃ k : Nat, i = k := ⟨i.toNat, by omega⟩
  have hk : k < vs.length := by omega
  refine ⟨vs[k], List.getElem_mem hk, ?_⟩
  rw [atI_n, List.getElem?_map, List.getElem?_eq_getElem hk]
  rfl
theorem value_is {m : Int} {vs : List Int} (hv : Vals m vs) {n : Nat} {d : D} (h : TD m n d) : n ≤ 8 → ∃ z : Int, z.natAbs < Bd n ∧ ∀ k, n ≤ k → f_value_of (k + 1) [d, .tuple (vs.map .int)] = some (.int z, false) ∧ f_law_value (k + 1) [d, .tuple (vs.map .int)] = some (.int z, false) := by
  induction h with
  | @var n i h0 h1 =>
    intro _
    obtain ⟨v, hm, e⟩ := atI_get hv.1 h0 h1
    refine ⟨v, Nat.lt_of_lt_of_le (hv.2 v hm) (Bd_two n), fun k _ => ⟨?_, ?_⟩⟩
    · simp (decide := true) [f_value_of, m_value_of, runF_ap, e]
    · simp (decide := true) [f_law_value, m_law_value, runF_ap, e]
  | @num n z hz =>
    intro _
    refine ⟨z, Nat.lt_of_lt_of_le hz (Bd_two n), fun k _ => ⟨?_, ?_⟩⟩
    · simp (decide := true) [f_value_of, m_value_of, runF_ap]
    · simp (decide := true) [f_law_value, m_law_value, runF_ap]
  | @neg n t _ ih =>
    intro hn
    obtain ⟨z, hz, e⟩ := ih (by omega)
    refine ⟨-z, by have := Bd_add n; omega, fun k hk => ?_⟩
    obtain ⟨k, rfl⟩ : ∃ k', k = k' + 1 := ⟨k - 1, by omega⟩
    obtain ⟨e1, e2⟩ := e k (by omega)
    generalize hX : k + 1 = X at e1 e2 ⊢
    refine ⟨?_, ?_⟩
    · simp (decide := true) [f_value_of, m_value_of, runF_ap, e1]
    · simp (decide := true) [f_law_value, m_law_value, runF_ap, e2]
  | @bin n l r kd hk _ _ ih1 ih2 =>
    intro hn
    obtain ⟨x, hx, ex⟩ := ih1 (by omega)
    obtain ⟨y, hy, ey⟩ := ih2 (by omega)
    have mo := Bd_ok (by omega) hx hy
    have b1 := Bd_add n
    have b2 := Bd_mul n hx hy
    rw [← Int.natAbs_mul] at b2
    rcases hk with rfl | rfl | rfl | rfl | rfl
    · refine ⟨x + y, by omega, fun k hk => ?_⟩
      obtain ⟨k, rfl⟩ : ∃ k', k = k' + 1 := ⟨k - 1, by omega⟩
      obtain ⟨e1, e2⟩ := ex k (by omega)
      obtain ⟨e3, e4⟩ := ey k (by omega)
      generalize hX : k + 1 = X at e1 e2 e3 e4 ⊢
      exact ⟨by simp (decide := true) [f_value_of, m_value_of, runF_ap, e1, e3, f_combined, m_combined], by simp (decide := true) [f_law_value, m_law_value, runF_ap, e2, e4]⟩
    · refine ⟨x - y, by omega, fun k hk => ?_⟩
      obtain ⟨k, rfl⟩ : ∃ k', k = k' + 1 := ⟨k - 1, by omega⟩
      obtain ⟨e1, e2⟩ := ex k (by omega)
      obtain ⟨e3, e4⟩ := ey k (by omega)
      generalize hX : k + 1 = X at e1 e2 e3 e4 ⊢
      exact ⟨by simp (decide := true) [f_value_of, m_value_of, runF_ap, e1, e3, f_combined, m_combined], by simp (decide := true) [f_law_value, m_law_value, runF_ap, e2, e4]⟩
    · refine ⟨x * y, b2, fun k hk => ?_⟩
      obtain ⟨k, rfl⟩ : ∃ k', k = k' + 1 := ⟨k - 1, by omega⟩
      obtain ⟨e1, e2⟩ := ex k (by omega)
      obtain ⟨e3, e4⟩ := ey k (by omega)
      generalize hX : k + 1 = X at e1 e2 e3 e4 ⊢
      exact ⟨by simp (decide := true) [f_value_of, m_value_of, runF_ap, e1, e3, f_combined, m_combined, mo], by simp (decide := true) [f_law_value, m_law_value, runF_ap, e2, e4, mo]⟩
    · refine ⟨if y < x then y else x, by split <;> omega, fun k hk => ?_⟩
      obtain ⟨k, rfl⟩ : ∃ k', k = k' + 1 := ⟨k - 1, by omega⟩
      obtain ⟨e1, e2⟩ := ex k (by omega)
      obtain ⟨e3, e4⟩ := ey k (by omega)
      generalize hX : k + 1 = X at e1 e2 e3 e4 ⊢
      refine ⟨by simp (decide := true) [f_value_of, m_value_of, runF_ap, e1, e3, f_combined, m_combined], ?_⟩
      by_cases c : x < y
      · simp (decide := true) [f_law_value, m_law_value, runF_ap, e2, e4, c]; omega
      · simp (decide := true) [f_law_value, m_law_value, runF_ap, e2, e4, c]; omega
    · refine ⟨if y > x then y else x, by split <;> omega, fun k hk => ?_⟩
      obtain ⟨k, rfl⟩ : ∃ k', k = k' + 1 := ⟨k - 1, by omega⟩
      obtain ⟨e1, e2⟩ := ex k (by omega)
      obtain ⟨e3, e4⟩ := ey k (by omega)
      generalize hX : k + 1 = X at e1 e2 e3 e4 ⊢
      refine ⟨by simp (decide := true) [f_value_of, m_value_of, runF_ap, e1, e3, f_combined, m_combined], ?_⟩
      by_cases c : x < y
      · simp (decide := true) [f_law_value, m_law_value, runF_ap, e2, e4, c]
      · simp (decide := true) [f_law_value, m_law_value, runF_ap, e2, e4, c]
end Wd
namespace Wd
open PySem PySem.Spec L2
theorem TD.imm {m : Int} {n : Nat} {d : D} (h : TD m n d) : Wd.imm d = true := by
  induction h with
  | var _ _ => rfl
  | num _ => rfl
  | neg _ ih => simp [Wd.imm, immL, ih]
  | bin _ _ _ _ ih1 ih2 => simp [Wd.imm, immL, ih1, ih2]
theorem TD.up {m : Int} {n : Nat} {d : D} (h : TD m n d) : TD m (n + 1) d := by
  induction h with
  | var a b => exact .var a b
  | num a => exact .num a
  | neg _ ih => exact .neg ih
  | bin k hk _ _ ih1 ih2 => exact .bin k hk ih1 ih2
inductive CD (m : Int) : Nat → D → Prop
  | tru {n} : CD m n (.tuple [.str "true"])
  | fls {n} : CD m n (.tuple [.str "false"])
  | less {n l r} : TD m 2 l → TD m 2 r → CD m n (.tuple [.str "less", l, r])
  | same {n l r} : TD m 2 l → TD m 2 r → CD m n (.tuple [.str "same", l, r])
  | not {n c} : CD m n c → CD m (n + 1) (.tuple [.str "not", c])
  | and {n l r} : CD m n l → CD m n r → CD m (n + 1) (.tuple [.str "and", l, r])
  | or {n l r} : CD m n l → CD m n r → CD m (n + 1) (.tuple [.str "or", l, r])
theorem Digits.at' {N : Nat} {B : Int} {ds : List Int} (h : Digits N B ds) {i : Int} (h0 : 0 ≤ i) (h1 : i < N) : ∃ y, atI (ds.map PyData.int) i = some (.int y) ∧ 0 ≤ y ∧ y < B := by
  obtain ⟨k, rfl⟩ : ∃ k : Nat, i = k := ⟨i.toNat, by omega⟩
  obtain ⟨y, e, h2⟩ := h.2 k (by omega)
  refine ⟨y, ?_, h2⟩
  rw [atI_n, List.getElem?_map, e]
  rfl
theorem term_is {xs : List D} {m : Int} (hm : 0 < m) {i x y z : Int} (ex : atI xs i = some (.int x)) (ey : atI xs (i + 1) = some (.int y)) (ez : atI xs (i + 2) = some (.int z)) (x0 : 0 ≤ x) : ∃ t, f_law_term [.list xs, .int i, .int m] = some (t, false) ∧ TD m 2 t := by
  have m1 : ∀ i, modOk i 9 = true := fun i => modOk_b (by decide)
  have m2 : ∀ i, modOk i 4 = true := fun i => modOk_b (by decide)
  have m3 : ∀ i, modOk i m = true := fun i => modOk_b hm
  have V : ∀ {n}, TD m n (.tuple [.str "var", .int (y % m)]) := .var (Int.emod_nonneg _ (by omega)) (Int.emod_lt_of_pos _ hm)
  have V' : ∀ {n}, TD m n (.tuple [.str "var", .int (z % m)]) := .var (Int.emod_nonneg _ (by omega)) (Int.emod_lt_of_pos _ hm)
  have N : ∀ {n}, TD m n (.tuple [.str "num", .int (z % 4 - 1)]) := .num (by have := Int.emod_nonneg z (show (4 : Int) ≠ 0 by decide); have := Int.emod_lt_of_pos z (show (0 : Int) < 4 by decide); omega)
  have N1 : ∀ {n}, TD m n (.tuple [.str "num", .int 1]) := .num (by decide)
  have kk : x % 9 = 0 ∨ x % 9 = 1 ∨ x % 9 = 2 ∨ x % 9 = 3 ∨ x % 9 = 4 ∨ x % 9 = 5 ∨ x % 9 = 6 ∨ x % 9 = 7 ∨ x % 9 = 8 := by omega
  rcases kk with kk | kk | kk | kk | kk | kk | kk | kk | kk
  · exact ⟨_, by simp [f_law_term, m_law_term, runF_ap, m1, m2, m3, ex, ey, ez, kk, settle_cons, imm, immL], N⟩
  · exact ⟨_, by simp [f_law_term, m_law_term, runF_ap, m1, m2, m3, ex, ey, ez, kk, settle_cons, imm, immL], .bin "add" (by simp) V N⟩
  · exact ⟨_, by simp [f_law_term, m_law_term, runF_ap, m1, m2, m3, ex, ey, ez, kk, settle_cons, imm, immL], .bin "sub" (by simp) N V⟩
  · exact ⟨_, by simp [f_law_term, m_law_term, runF_ap, m1, m2, m3, ex, ey, ez, kk, settle_cons, imm, immL], .bin "min" (by simp) (.bin "add" (by simp) V N1) N⟩
  · exact ⟨_, by simp [f_law_term, m_law_term, runF_ap, m1, m2, m3, ex, ey, ez, kk, settle_cons, imm, immL], .bin "max" (by simp) V N⟩
  · exact ⟨_, by simp [f_law_term, m_law_term, runF_ap, m1, m2, m3, ex, ey, ez, kk, settle_cons, imm, immL], .bin "mul" (by simp) N V⟩
  · exact ⟨_, by simp [f_law_term, m_law_term, runF_ap, m1, m2, m3, ex, ey, ez, kk, settle_cons, imm, immL], .neg V'⟩
  · exact ⟨_, by simp [f_law_term, m_law_term, runF_ap, m1, m2, m3, ex, ey, ez, kk, settle_cons, imm, immL], .bin "sub" (by simp) V V'⟩
  · exact ⟨_, by simp [f_law_term, m_law_term, runF_ap, m1, m2, m3, ex, ey, ez, kk, settle_cons, imm, immL], V⟩
theorem term_at {N : Nat} {B : Int} {ds : List Int} (h : Digits N B ds) {m : Int} (hm : 0 < m) {i : Int} (h0 : 0 ≤ i) (h1 : i + 2 < N) : ∃ t, f_law_term [.list (ds.map .int), .int i, .int m] = some (t, false) ∧ TD m 2 t := by
  obtain ⟨x, ex, x0, _⟩ := h.at' h0 (by omega)
  obtain ⟨y, ey, _⟩ := h.at' (i := i + 1) (by omega) (by omega)
  obtain ⟨z, ez, _⟩ := h.at' (i := i + 2) (by omega) (by omega)
  exact term_is hm ex ey ez x0
theorem cond_is {N : Nat} {B : Int} {ds : List Int} (h : Digits N B ds) (hN : 7 ≤ N) {m : Int} (hm : 0 < m) : ∃ c, f_law_condition [.list (ds.map .int), .int 0, .int m] = some (c, false) ∧ CD m 2 c ∧ imm c = true := by
  obtain ⟨x, ex, x0, _⟩ := h.at' (i := 0) (by omega) (by omega)
  obtain ⟨y, ey, y0, _⟩ := h.at' (i := 5) (by omega) (by omega)
  obtain ⟨z, ez, z0, _⟩ := h.at' (i := 6) (by omega) (by omega)
  obtain ⟨t1, e1, h1⟩ := term_at h hm (i := 1) (by omega) (by omega)
  obtain ⟨t2, e2, h2⟩ := term_at h hm (i := 4) (by omega) (by omega)
  have i1 := h1.imm
  have i2 := h2.imm
  have m1 : ∀ i, modOk i 7 = true := fun i => modOk_b (by decide)
  have m2 : ∀ i, modOk i 3 = true := fun i => modOk_b (by decide)
  have m3 : ∀ i, modOk i m = true := fun i => modOk_b hm
  have V : ∀ {n}, TD m n (.tuple [.str "var", .int (y % m)]) := .var (Int.emod_nonneg _ (by omega)) (Int.emod_lt_of_pos _ hm)
  have W : ∀ {n}, TD m n (.tuple [.str "num", .int (z % 3 - 1)]) := .num (by have := Int.emod_nonneg z (show (3 : Int) ≠ 0 by decide); have := Int.emod_lt_of_pos z (show (0 : Int) < 3 by decide); omega)
  have kk : x % 7 = 0 ∨ x % 7 = 1 ∨ x % 7 = 2 ∨ x % 7 = 3 ∨ x % 7 = 4 ∨ x % 7 = 5 ∨ x % 7 = 6 := by omega
  simp at ex ey ez
  rcases kk with kk | kk | kk | kk | kk | kk | kk
  · exact ⟨_, by simp [f_law_condition, m_law_condition, runF_ap, m1, m2, m3, ex, ey, ez, e1, e2, kk, settle_cons, imm, immL, i1, i2], .tru, rfl⟩
  · exact ⟨_, by simp [f_law_condition, m_law_condition, runF_ap, m1, m2, m3, ex, ey, ez, e1, e2, kk, settle_cons, imm, immL, i1, i2], .tru, rfl⟩
  · exact ⟨_, by simp [f_law_condition, m_law_condition, runF_ap, m1, m2, m3, ex, ey, ez, e1, e2, kk, settle_cons, imm, immL, i1, i2], .less h1 h2, by simp [imm, immL, i1, i2]⟩
  · exact ⟨_, by simp [f_law_condition, m_law_condition, runF_ap, m1, m2, m3, ex, ey, ez, e1, e2, kk, settle_cons, imm, immL, i1, i2], .same V W, rfl⟩
  · exact ⟨_, by simp [f_law_condition, m_law_condition, runF_ap, m1, m2, m3, ex, ey, ez, e1, e2, kk, settle_cons, imm, immL, i1, i2], .not (.less h1 h2), by simp [imm, immL, i1, i2]⟩
  · exact ⟨_, by simp [f_law_condition, m_law_condition, runF_ap, m1, m2, m3, ex, ey, ez, e1, e2, kk, settle_cons, imm, immL, i1, i2], .or (.less h1 h2) (.same V W), by simp [imm, immL, i1, i2]⟩
  · exact ⟨_, by simp [f_law_condition, m_law_condition, runF_ap, m1, m2, m3, ex, ey, ez, e1, e2, kk, settle_cons, imm, immL, i1, i2], .and (.not (.same V W)) (.or (.less h1 h2) .fls), by simp [imm, immL, i1, i2]⟩
theorem str_small (k : Nat) (h : k ≤ 9) : ∃ s : Str, dStrI (.int k) = some (.str s) ∧ s.length ≤ 20 := by
  have : k = 0 ∨ k = 1 ∨ k = 2 ∨ k = 3 ∨ k = 4 ∨ k = 5 ∨ k = 6 ∨ k = 7 ∨ k = 8 ∨ k = 9 := by omega
  rcases this with rfl | rfl | rfl | rfl | rfl | rfl | rfl | rfl | rfl | rfl <;> exact ⟨_, rfl, by decide⟩
/-- a setting of a move -/
def SetOk (m first count : Nat) (d : D) : Prop := ∃ (num : Nat) (lo hi : D), d = .tuple [.int num, lo, hi] ∧ first ≤ num ∧ num < first + count ∧ TD m 3 lo ∧ TD m 3 hi
theorem SetOk.imm {m first count : Nat} {d : D} (h : SetOk m first count d) : Wd.imm d = true := by
  obtain ⟨num, lo, hi, rfl, _, _, h1, h2⟩ := h
  simp [Wd.imm, immL, h1.imm, h2.imm]
theorem immL_all {ds : List D} (h : ∀ d ∈ ds, imm d = true) : immL ds = true := by
  induction ds with
  | nil => rfl
  | cons d ds ih => rw [immL, h d List.mem_cons_self, ih fun x hx => h x (List.mem_cons_of_mem _ hx)]; rfl
def MoveOk (m first count : Nat) (d : D) : Prop := ∃ (nm : Str) (c : D) (st : List D), d = .tuple [.str nm, c, .tuple st] ∧ CD m 2 c ∧ st.length ≤ count ∧ (∀ s ∈ st, SetOk m first count s) ∧ imm d = true
theorem move_is (ns : List Int) (k at' first count m : Nat) (ha : at' ≤ 9) (hc : count ≤ 2) (hm : 0 < m) : ∃ d, f_law_move [scrD ns, .int k, .int at', .int first, .int count, .int m] = some (d, false) ∧ MoveOk m first count d := by
  obtain ⟨ds, ed, hd⟩ := drawn_rep ns k 24 9 (by decide) (by decide) (by decide)
  have k9 : dMulA (.list [.int 9]) (.int 24) = some (.list (List.replicate 24 (.int 9)), true) := dMul_rep (n := 24) (by decide)
  generalize hR : List.replicate 24 (PyData.int 9) = R at ed k9
  obtain ⟨c, ec, cd, ci⟩ := cond_is hd (by decide) (m := m) (by omega)
  obtain ⟨s, es, hs⟩ := str_small at' ha
  obtain ⟨x22, e22, _⟩ := hd.at' (i := 22) (by decide) (by decide)
  have m3 : ∀ i, modOk i 3 = true := fun i => modOk_b (by decide)
  have m2 : ∀ i, modOk i 2 = true := fun i => modOk_b (by decide)
  have k6 : ∀ i, mulOk 6 i = true := fun i => mulOk_l (by decide)
  let S : D := scrD ns
  obtain ⟨ρ', e, st, z8, z9, z10, rfl, h1, h2⟩ := forR_run (tg := tgN 8) (m := (sIf (xNe (xMod (xIxA (xVar 6) (xAdd (xC (.int 7)) (xVar 8))) (xC (.int 3))) (xC (.int 0)))
  (sSeq (sAsg 9 (xCall (f_law_term) [(xVar 6), (xAdd (xC (.int 9)) (xMul (xC (.int 6)) (xVar 8))), (xVar 5)]))
  (sSeq (sAsg 10 (xVar 9))
  (sSeq (sIf (xEq (xMod (xIxA (xVar 6) (xAdd (xC (.int 7)) (xVar 8))) (xC (.int 3))) (xC (.int 2)))
  (sAsg 10 (xTup [(xC (.str "add")), (xVar 9), (xTup [(xC (.str "num")), (xMod (xIxA (xVar 6) (xAdd (xC (.int 12)) (xMul (xC (.int 6)) (xVar 8)))) (xC (.int 3)))])]))
  sNx)
  (sApp 7 (xTup [(xAdd (xVar 3) (xVar 8)), (xVar 9), (xVar 10)])))))
  sNx)) (ds := rangeD 0 count) (ρ := [.val S, .val (.int k), .val (.int at'), .val (.int first), .val (.int count), .val (.int m), .own (.list (ds.map .int)), .own (.list []), .un, .un, .un])
    (fun j ρ => ∃ (st : List D) (z8 z9 z10 : C), ρ = [.val S, .val (.int k), .val (.int at'), .val (.int first), .val (.int count), .val (.int m), .own (.list (ds.map .int)), .own (.list st), z8, z9, z10] ∧ st.length ≤ j ∧ ∀ s ∈ st, SetOk m first count s)
    ⟨[], .un, .un, .un, rfl, Nat.le_refl _, by simp⟩
    (fun j hj ρ => by
      rintro ⟨st, z8, z9, z10, rfl, h1, h2⟩
      rw [rangeD0_get hj]
      have hj' : j < count := by rw [rangeD_len] at hj; omega
      obtain ⟨x, ex, x0, _⟩ := hd.at' (i := 7 + (j : Int)) (by omega) (by omega)
      obtain ⟨y, ey, y0, _⟩ := hd.at' (i := 12 + 6 * (j : Int)) (by omega) (by omega)
      obtain ⟨t, et, ht⟩ := term_at hd (m := m) (by omega) (i := 9 + 6 * (j : Int)) (by omega) (by omega)
      have ti := ht.imm
      have sl : st.length < 10000000 := by omega
      have kk : x % 3 = 0 ∨ x % 3 = 1 ∨ x % 3 = 2 := by omega
      have q0 := Int.emod_nonneg y (show (3 : Int) ≠ 0 by decide)
      have q1 := Int.emod_lt_of_pos y (show (0 : Int) < 3 by decide)
      have mem : ∀ d, SetOk m first count d → ∀ s ∈ st ++ [d], SetOk m first count s := fun d hd s hs => by
        rcases List.mem_append.mp hs with hs | hs
        · exact h2 s hs
        · rw [List.mem_singleton] at hs; subst hs; exact hd
      rcases kk with kk | kk | kk
      · exact ⟨_, [.val S, .val (.int k), .val (.int at'), .val (.int first), .val (.int count), .val (.int m), .own (.list (ds.map .int)), .own (.list st), .val (.int j), z9, z10], rfl, .inl (by simp [m3, ex, kk]), st, .val (.int j), z9, z10, rfl, by omega, h2⟩
      · refine ⟨_, [.val S, .val (.int k), .val (.int at'), .val (.int first), .val (.int count), .val (.int m), .own (.list (ds.map .int)), .own (.list (st ++ [.tuple [.int ((first : Int) + j), t, t]])), .val (.int j), .val t, .val t], rfl, .inl ?_, _, _, _, _, rfl, by simp; omega, mem _ ⟨first + j, t, t, by simp, by omega, by omega, ht.up, ht.up⟩⟩
        simp [m3, k6, ex, kk, et, settle_imm ti, settle_cons, imm, immL, ti, sl]
      · refine ⟨_, [.val S, .val (.int k), .val (.int at'), .val (.int first), .val (.int count), .val (.int m), .own (.list (ds.map .int)), .own (.list (st ++ [.tuple [.int ((first : Int) + j), t, .tuple [.str "add", t, .tuple [.str "num", .int (y % 3)]]]])), .val (.int j), .val t, .val (.tuple [.str "add", t, .tuple [.str "num", .int (y % 3)]])], rfl, .inl ?_, _, _, _, _, rfl, by simp; omega, mem _ ⟨first + j, t, .tuple [.str "add", t, .tuple [.str "num", .int (y % 3)]], by simp, by omega, by omega, ht.up, .bin "add" (by simp) ht (.num (by omega))⟩⟩
        simp [m3, k6, ex, ey, kk, et, settle_imm ti, settle_cons, imm, immL, ti, sl])
  have hl : (rangeD 0 (count : Int)).length = count := by rw [rangeD_len]; omega
  rw [hl] at h1
  have R1 : rgOk (count : Int) = true := rgOk_n (by omega)
  have ad : dAdd (.str "m") (.str s) = some (.str ("m" ++ s), false) := dAdd_ss (by show 1 + s.length ≤ 10000000; omega)
  have fin : ∀ st' : List D, st'.length ≤ count → (∀ s ∈ st', SetOk m first count s) → MoveOk m first count (.tuple [.str ("m" ++ s), c, .tuple st']) := fun st' hl hs => ⟨_, _, _, rfl, cd, hl, hs, by
    have := immL_all fun d hd => (hs d hd).imm
    simp [imm, immL, ci, this]⟩
  have pre : ∀ D' st', (sSeq (sIf (xEq (xMod (xIxA (xVar 6) (xC (.int 22))) (xC (.int 2))) (xC (.int 1)))
  (sAsg 7 (xRev (xVar 7)))
  sNx)
  (sRet (xTup [(xAdd (xC (.str "m")) (xStrI (xVar 2))), (xCall (f_law_condition) [(xVar 6), (xC (.int 0)), (xVar 5)]), (xTuple (xVar 7))]))) [.val S, .val (.int k), .val (.int at'), .val (.int first), .val (.int count), .val (.int m), .own (.list (ds.map .int)), .own (.list st), z8, z9, z10] = some (.rt D' false) → D' = .tuple [.str ("m" ++ s), c, .tuple st'] → f_law_move [scrD ns, .int k, .int at', .int first, .int count, .int m] = some (D', false) := by
    intro D' st' hh _
    refine run_of rfl ?_
    show m_law_move [.val S, .val (.int k), .val (.int at'), .val (.int first), .val (.int count), .val (.int m), .un, .un, .un, .un, .un] = _
    unfold m_law_move
    rw [sSeq_go (ρ' := [.val S, .val (.int k), .val (.int at'), .val (.int first), .val (.int count), .val (.int m), .own (.list (ds.map .int)), .un, .un, .un, .un]) (by simp [S, k9, ed, settle_cons])]
    rw [sSeq_go (ρ' := [.val S, .val (.int k), .val (.int at'), .val (.int first), .val (.int count), .val (.int m), .own (.list (ds.map .int)), .own (.list []), .un, .un, .un]) (by simp)]
    rw [sSeq_go (by
      rw [sFor_ap, srcR1_ev]
      simp only [xVar_ev, getR_s, getR_v0, Option.map_some, Option.bind_some, R1, if_true]
      exact e)]
    exact hh
  by_cases c22 : x22 % 2 = 1
  · exact ⟨_, pre _ st.reverse (by simp [m2, e22, c22, es, ad, ec, settle_cons]) rfl, fin _ (by simpa using h1) fun s hs => h2 s (List.mem_reverse.mp hs)⟩
  · exact ⟨_, pre _ st (by simp [m2, e22, c22, es, ad, ec]) rfl, fin _ h1 h2⟩
end Wd
namespace Wd
open PySem PySem.Spec L2
theorem Digs.at {s d : List Int} (h : Digs s d) {j : Nat} {z : Int} (hz : s[j]? = some z) : ∃ y, atI (d.map PyData.int) j = some (.int y) ∧ 0 ≤ y ∧ y < z := by
  obtain ⟨y, e, h0⟩ := h.get hz
  refine ⟨y, ?_, h0⟩
  rw [atI_n, List.getElem?_map, e]
  rfl
/-- a sensor -/
def SenOk (m : Nat) (d : D) : Prop := ∃ (nm : Str) (t : D) (tol : Int) (b : Bool), d = .tuple [.str nm, t, .int tol, .bool b] ∧ TD m 2 t ∧ 0 ≤ tol ∧ tol ≤ 2
theorem SenOk.imm {m : Nat} {d : D} (h : SenOk m d) : Wd.imm d = true := by
  obtain ⟨nm, t, tol, b, rfl, ht, _⟩ := h
  simp [Wd.imm, immL, ht.imm]
theorem mem_snoc {α : Type} {P : α → Prop} {l : List α} {a : α} (h : ∀ x ∈ l, P x) (ha : P a) : ∀ x ∈ l ++ [a], P x := fun x hx => by
  rcases List.mem_append.mp hx with hx | hx
  · exact h x hx
  · rw [List.mem_singleton] at hx; subst hx; exact ha
theorem sensors_is (ns : List Int) (m : Nat) (hm : 0 < m) : ∃ ss, f_law_sensors [scrD ns, .int m] = some (.list ss, true) ∧ ss.length ≤ 2 ∧ ∀ s ∈ ss, SenOk m s := by
  obtain ⟨hs, eh, hh⟩ := draw_is ns [4] 20 (by decide) (by decide) (by decide)
  obtain ⟨h0, e0, p0, p1⟩ := hh.at (j := 0) rfl
  have eh : f_law_draw [scrD ns, .int 20, .list [.int 4]] = some (.list (hs.map .int), true) := eh
  have e0 : atI (hs.map PyData.int) 0 = some (.int h0) := e0
  obtain ⟨n, hn, hn2⟩ : ∃ n : Nat, atI [PyData.int 1, .int 0, .int 2, .int 1] h0 = some (.int n) ∧ n ≤ 2 := by
    have : h0 = 0 ∨ h0 = 1 ∨ h0 = 2 ∨ h0 = 3 := by omega
    rcases this with rfl | rfl | rfl | rfl
    · exact ⟨1, rfl, by decide⟩
    · exact ⟨0, rfl, by decide⟩
    · exact ⟨2, rfl, by decide⟩
    · exact ⟨1, rfl, by decide⟩
  let S : D := scrD ns
  obtain ⟨ρ', e, ss, z4, z5, rfl, h1, h2⟩ := forR_run (tg := tgN 4) (m := (sSeq (sAsg 5 (xCall (f_law_draw) [(xVar 0), (xAdd (xC (.int 21)) (xVar 4)), (xLst [(xC (.int 9)), (xC (.int 9)), (xC (.int 9)), (xC (.int 3)), (xC (.int 3))])]))
  (sApp 2 (xTup [(xAdd (xC (.str "s")) (xStrI (xVar 4))), (xCall (f_law_term) [(xVar 5), (xC (.int 0)), (xVar 1)]), (xIxA (xVar 5) (xC (.int 3))), (xEq (xIxA (xVar 5) (xC (.int 4))) (xC (.int 1)))])))) (ds := rangeD 0 n) (ρ := [.val S, .val (.int m), .own (.list []), .own (.list (hs.map .int)), .un, .un])
    (fun j ρ => ∃ (ss : List D) (z4 z5 : C), ρ = [.val S, .val (.int m), .own (.list ss), .own (.list (hs.map .int)), z4, z5] ∧ ss.length = j ∧ ∀ s ∈ ss, SenOk m s)
    ⟨[], .un, .un, rfl, rfl, by simp⟩
    (fun j hj ρ => by
      rintro ⟨ss, z4, z5, rfl, h1, h2⟩
      rw [rangeD0_get hj]
      have hj' : j < n := by rw [rangeD_len] at hj; omega
      obtain ⟨ds, ed, hd⟩ := draw_is ns [9, 9, 9, 3, 3] (21 + j) (by decide) (by decide) (by decide)
      obtain ⟨x0, q0, a0, _⟩ := hd.at (j := 0) rfl
      obtain ⟨x1, q1, a1, _⟩ := hd.at (j := 1) rfl
      obtain ⟨x2, q2, a2, _⟩ := hd.at (j := 2) rfl
      obtain ⟨x3, q3, a3, b3⟩ := hd.at (j := 3) rfl
      obtain ⟨x4, q4, a4, _⟩ := hd.at (j := 4) rfl
      have ed : f_law_draw [scrD ns, .int (21 + (j : Int)), .list [.int 9, .int 9, .int 9, .int 3, .int 3]] = some (.list (ds.map .int), true) := ed
      obtain ⟨t, et, ht⟩ := term_is (m := m) (by omega) (i := 0) q0 q1 q2 a0
      obtain ⟨s, es, hsl⟩ := str_small j (by omega)
      have ad : dAdd (.str "s") (.str s) = some (.str ("s" ++ s), false) := dAdd_ss (by show 1 + s.length ≤ 10000000; omega)
      have sl : ss.length < 10000000 := by omega
      have q3 : atI (ds.map PyData.int) 3 = some (.int x3) := q3
      have q4 : atI (ds.map PyData.int) 4 = some (.int x4) := q4
      simp at q3 q4
      refine ⟨_, [.val S, .val (.int m), .own (.list (ss ++ [.tuple [.str ("s" ++ s), t, .int x3, .bool (decide (x4 = 1))]])), .own (.list (hs.map .int)), .val (.int j), .own (.list (ds.map .int))], rfl, .inl ?_, _, _, _, rfl, by simp [h1], mem_snoc h2 ⟨_, t, x3, _, rfl, ht, a3, by omega⟩⟩
      simp [S, ed, es, ad, et, q3, q4, sl, settle_cons, imm, immL, ht.imm])
  have hl : (rangeD 0 (n : Int)).length = n := by rw [rangeD_len]; omega
  rw [hl] at h1
  refine ⟨ss, run_of rfl ?_, by omega, h2⟩
  show m_law_sensors [.val S, .val (.int m), .un, .un, .un, .un] = _
  unfold m_law_sensors
  rw [sSeq_go (ρ' := [.val S, .val (.int m), .own (.list []), .un, .un, .un]) (by simp)]
  rw [sSeq_go (ρ' := [.val S, .val (.int m), .own (.list []), .own (.list (hs.map .int)), .un, .un]) (by simp [S, eh, settle_cons])]
  rw [sSeq_go (ρ' := [.val S, .val (.int m), .own (.list ss), .own (.list (hs.map .int)), z4, z5]) (by
    have R : rgOk (n : Int) = true := rgOk_n (by omega)
    rw [sFor_ap, srcR1_ev]
    simp [e0, hn, R]
    exact e)]
  simp
/-- a variable -/
def VarOk (d : D) : Prop := ∃ (nm : Str) (least size low high : Int), d = .tuple [.str nm, .int least, .int (least + size), .int low, .int high] ∧ -1 ≤ least ∧ least ≤ 1 ∧ 0 ≤ size ∧ size ≤ 2 ∧ least ≤ low ∧ low ≤ high ∧ high ≤ least + size
/-- a part -/
def PartOk (m : Nat) (d : D) : Prop := ∃ (nm : Str) (first count : Nat) (mv : List D), d = .tuple [.str nm, .int first, .int count, .tuple mv] ∧ 1 ≤ count ∧ count ≤ 2 ∧ mv.length ≤ 4 ∧ ∀ x ∈ mv, MoveOk m first count x
theorem sum_nat (cs : List Nat) : dSum (.list (cs.map fun (c : Nat) => .int c)) = some (.int (cs.sum : Nat)) := by
  have h : (cs.map fun (c : Nat) => PyData.int c) = (cs.map fun (c : Nat) => (c : Int)).map PyData.int := by rw [List.map_map]; rfl
  show (intsOf _).map _ = _
  rw [h, intsOf_map]
  show some (PyData.int _) = _
  congr 2
  induction cs with
  | nil => rfl
  | cons c cs ih => rw [List.map_cons, List.sum_cons, List.sum_cons, ih (by rw [List.map_map]; rfl)]; omega
theorem take_le_sum (cs : List Nat) (k : Nat) : (cs.take k).sum ≤ cs.sum := by
  induction cs generalizing k with
  | nil => simp
  | cons c cs ih =>
    cases k with
    | zero => simp
    | succ k => rw [List.take_succ_cons, List.sum_cons, List.sum_cons]; have := ih k; omega
end Wd
namespace Wd
open PySem PySem.Spec L2
theorem len_app (a b : Str) : (a ++ b).length = a.length + b.length := Array.size_append
def plantD (vars parts sens : List D) : D := .tuple [.tuple vars, .tuple parts, .tuple sens]
structure PlantOk (m : Nat) (vars parts sens : List D) : Prop where
  len : vars.length = m
  pos : 1 ≤ m
  le : m ≤ 6
  var : ∀ v ∈ vars, VarOk v
  part : ∀ p ∈ parts, PartOk m p
  lenP : parts.length ≤ 3
  lenS : sens.length ≤ 2
  sen : ∀ s ∈ sens, SenOk m s
theorem var_loop (ns : List Int) (c1 c2 c3 c5 c8 z14 : C) (p c : Nat) (hp : p ≤ 9) (hc : c ≤ 2) (vars : List D) (hv : ∀ v ∈ vars, VarOk v) (hl : vars.length ≤ 20) (a : Nat) (z9 z10 z11 z12 z13 : C) :
    ∃ (vs : List D) (a' : Nat) (z9' z10' z11' z12' z13' : C), forR (tgN 9) (sSeq (sAsg 10 (xCall (f_law_draw) [(xVar 0), (xVar 6), (xLst [(xC (.int 3)), (xC (.int 3)), (xC (.int 3)), (xC (.int 3))])]))
  (sSeq (sAsg 11 (xSub (xIxA (xVar 10) (xC (.int 0))) (xC (.int 1))))
  (sSeq (sAsg 12 (xAdd (xVar 11) (xMod (xIxA (xVar 10) (xC (.int 2))) (xAdd (xIxA (xVar 10) (xC (.int 1))) (xC (.int 1))))))
  (sSeq (sAsg 13 (xAdd (xVar 12) (xMod (xIxA (xVar 10) (xC (.int 3))) (xAdd (xSub (xAdd (xVar 11) (xIxA (xVar 10) (xC (.int 1)))) (xVar 12)) (xC (.int 1))))))
  (sSeq (sApp 4 (xTup [(xAdd (xAdd (xAdd (xC (.str "p")) (xStrI (xVar 7))) (xC (.str ".v"))) (xStrI (xVar 9))), (xVar 11), (xAdd (xVar 11) (xIxA (xVar 10) (xC (.int 1)))), (xVar 12), (xVar 13)]))
  (sAsg 6 (xAdd (xVar 6) (xC (.int 1))))))))) (rangeD 0 c) [.val (scrD ns), c1, c2, c3, .own (.list vars), c5, .val (.int a), .val (.int p), c8, z9, z10, z11, z12, z13, z14] = some (.nx [.val (scrD ns), c1, c2, c3, .own (.list (vars ++ vs)), c5, .val (.int a'), .val (.int p), c8, z9', z10', z11', z12', z13', z14]) ∧ vs.length = c ∧ ∀ v ∈ vs, VarOk v := by
  obtain ⟨sp, ep, lp⟩ := str_small p hp
  obtain ⟨ρ', e, vs, a', z9', z10', z11', z12', z13', rfl, h1, h2⟩ := forR_run (tg := tgN 9) (m := (sSeq (sAsg 10 (xCall (f_law_draw) [(xVar 0), (xVar 6), (xLst [(xC (.int 3)), (xC (.int 3)), (xC (.int 3)), (xC (.int 3))])]))
  (sSeq (sAsg 11 (xSub (xIxA (xVar 10) (xC (.int 0))) (xC (.int 1))))
  (sSeq (sAsg 12 (xAdd (xVar 11) (xMod (xIxA (xVar 10) (xC (.int 2))) (xAdd (xIxA (xVar 10) (xC (.int 1))) (xC (.int 1))))))
  (sSeq (sAsg 13 (xAdd (xVar 12) (xMod (xIxA (xVar 10) (xC (.int 3))) (xAdd (xSub (xAdd (xVar 11) (xIxA (xVar 10) (xC (.int 1)))) (xVar 12)) (xC (.int 1))))))
  (sSeq (sApp 4 (xTup [(xAdd (xAdd (xAdd (xC (.str "p")) (xStrI (xVar 7))) (xC (.str ".v"))) (xStrI (xVar 9))), (xVar 11), (xAdd (xVar 11) (xIxA (xVar 10) (xC (.int 1)))), (xVar 12), (xVar 13)]))
  (sAsg 6 (xAdd (xVar 6) (xC (.int 1)))))))))) (ds := rangeD 0 c) (ρ := [.val (scrD ns), c1, c2, c3, .own (.list vars), c5, .val (.int a), .val (.int p), c8, z9, z10, z11, z12, z13, z14])
    (fun j ρ => ∃ (vs : List D) (a' : Nat) (z9' z10' z11' z12' z13' : C), ρ = [.val (scrD ns), c1, c2, c3, .own (.list (vars ++ vs)), c5, .val (.int a'), .val (.int p), c8, z9', z10', z11', z12', z13', z14] ∧ vs.length = j ∧ ∀ v ∈ vs, VarOk v)
    ⟨[], a, z9, z10, z11, z12, z13, by simp, rfl, by simp⟩
    (fun j hj ρ => by
      rintro ⟨vs, a', z9', z10', z11', z12', z13', rfl, h1, h2⟩
      rw [rangeD0_get hj]
      have hj' : j < c := by rw [rangeD_len] at hj; omega
      obtain ⟨sj, ej, lj⟩ := str_small j (by omega)
      obtain ⟨ds, ed, hd⟩ := draw_is ns [3, 3, 3, 3] a' (by decide) (by decide) (by decide)
      obtain ⟨x0, q0, a0, b0⟩ := hd.at (j := 0) rfl
      obtain ⟨x1, q1, a1, b1⟩ := hd.at (j := 1) rfl
      obtain ⟨x2, q2, a2, b2⟩ := hd.at (j := 2) rfl
      obtain ⟨x3, q3, a3, b3⟩ := hd.at (j := 3) rfl
      have ed : f_law_draw [scrD ns, .int a', .list [.int 3, .int 3, .int 3, .int 3]] = some (.list (ds.map .int), true) := ed
      have q0 : atI (ds.map PyData.int) 0 = some (.int x0) := q0
      have q1 : atI (ds.map PyData.int) 1 = some (.int x1) := q1
      have q2 : atI (ds.map PyData.int) 2 = some (.int x2) := q2
      have q3 : atI (ds.map PyData.int) 3 = some (.int x3) := q3
      simp at q1 q2 q3
      have mo : modOk x2 (x1 + 1) = true := modOk_b (by omega)
      have r0 := Int.emod_nonneg x2 (show x1 + 1 ≠ 0 by omega)
      have r1 := Int.emod_lt_of_pos x2 (show 0 < x1 + 1 by omega)
      obtain ⟨lo, hlo⟩ : ∃ lo, lo = x0 - 1 + x2 % (x1 + 1) := ⟨_, rfl⟩
      have mo2 : modOk x3 (x0 - 1 + x1 - lo + 1) = true := modOk_b (by omega)
      have r2 := Int.emod_nonneg x3 (show x0 - 1 + x1 - lo + 1 ≠ 0 by omega)
      have r3 := Int.emod_lt_of_pos x3 (show 0 < x0 - 1 + x1 - lo + 1 by omega)
      have d1 : dAdd (.str "p") (.str sp) = some (.str ("p" ++ sp), false) := dAdd_ss (by show 1 + sp.length ≤ 10000000; omega)
      have d2 : dAdd (.str ("p" ++ sp)) (.str ".v") = some (.str ("p" ++ sp ++ ".v"), false) := dAdd_ss (by rw [len_app]; show 1 + sp.length + 2 ≤ 10000000; omega)
      have d3 : dAdd (.str ("p" ++ sp ++ ".v")) (.str sj) = some (.str ("p" ++ sp ++ ".v" ++ sj), false) := dAdd_ss (by rw [len_app, len_app]; show 1 + sp.length + 2 + sj.length ≤ 10000000; omega)
      have vl : (vars ++ vs).length < 10000000 := by rw [List.length_append]; omega
      refine ⟨_, [.val (scrD ns), c1, c2, c3, .own (.list (vars ++ (vs ++ [.tuple [.str ("p" ++ sp ++ ".v" ++ sj), .int (x0 - 1), .int (x0 - 1 + x1), .int lo, .int (lo + x3 % (x0 - 1 + x1 - lo + 1))]]))), c5, .val (.int ((a' + 1 : Nat) : Int)), .val (.int p), c8, .val (.int j), .own (.list (ds.map .int)), .val (.int (x0 - 1)), .val (.int lo), .val (.int (lo + x3 % (x0 - 1 + x1 - lo + 1))), z14], rfl, .inl ?_, _, _, _, _, _, _, _, rfl, by simp [h1], mem_snoc h2 ⟨_, x0 - 1, x1, lo, _, rfl, by omega, by omega, by omega, by omega, by omega, by omega, by omega⟩⟩
      simp only [List.set_cons_succ, List.set_cons_zero]
      rw [sSeq_go (ρ' := [.val (scrD ns), c1, c2, c3, .own (.list (vars ++ vs)), c5, .val (.int a'), .val (.int p), c8, .val (.int j), .own (.list (ds.map .int)), z11', z12', z13', z14]) (by simp [ed, settle_cons])]
      rw [sSeq_go (ρ' := [.val (scrD ns), c1, c2, c3, .own (.list (vars ++ vs)), c5, .val (.int a'), .val (.int p), c8, .val (.int j), .own (.list (ds.map .int)), .val (.int (x0 - 1)), z12', z13', z14]) (by simp [q0])]
      rw [sSeq_go (ρ' := [.val (scrD ns), c1, c2, c3, .own (.list (vars ++ vs)), c5, .val (.int a'), .val (.int p), c8, .val (.int j), .own (.list (ds.map .int)), .val (.int (x0 - 1)), .val (.int lo), z13', z14]) (by simp [q1, q2, mo, hlo])]
      rw [sSeq_go (ρ' := [.val (scrD ns), c1, c2, c3, .own (.list (vars ++ vs)), c5, .val (.int a'), .val (.int p), c8, .val (.int j), .own (.list (ds.map .int)), .val (.int (x0 - 1)), .val (.int lo), .val (.int (lo + x3 % (x0 - 1 + x1 - lo + 1))), z14]) (by simp [q1, q3, mo2])]
      rw [sSeq_go (ρ' := [.val (scrD ns), c1, c2, c3, .own (.list ((vars ++ vs) ++ [.tuple [.str ("p" ++ sp ++ ".v" ++ sj), .int (x0 - 1), .int (x0 - 1 + x1), .int lo, .int (lo + x3 % (x0 - 1 + x1 - lo + 1))]])), c5, .val (.int a'), .val (.int p), c8, .val (.int j), .own (.list (ds.map .int)), .val (.int (x0 - 1)), .val (.int lo), .val (.int (lo + x3 % (x0 - 1 + x1 - lo + 1))), z14]) (by
        have vl' : vars.length + vs.length < 10000000 := by rw [← List.length_append]; exact vl
        simp [ep, ej, d1, d2, d3, q1, vl', settle_cons, imm, immL])]
      simp)
  have hl' : (rangeD 0 (c : Int)).length = c := by rw [rangeD_len]; omega
  rw [hl'] at h1
  exact ⟨vs, a', _, _, _, _, _, e, h1, h2⟩
end Wd
namespace Wd
open PySem PySem.Spec L2
theorem move_loop (ns : List Int) (c1 c4 c5 z10 z11 z12 z13 : C) (p n f c m : Nat) (cs : List Nat) (hp : cs[p]? = some c) (hc : c ≤ 2) (hm : 0 < m) (hn : n ≤ 4) (a : Nat) (z9 : C) :
    ∃ (mv : List D) (a' : Nat) (z9' : C), forR (tgN 9) (sSeq (sApp 14 (xCall (f_law_move) [(xVar 0), (xVar 6), (xVar 9), (xVar 8), (xIxA (xVar 2) (xVar 7)), (xVar 3)]))
  (sAsg 6 (xAdd (xVar 6) (xC (.int 1))))) (rangeD 0 n) [.val (scrD ns), c1, .own (.list (cs.map fun (c : Nat) => .int c)), .val (.int m), c4, c5, .val (.int a), .val (.int p), .val (.int f), z9, z10, z11, z12, z13, .own (.list [])] = some (.nx [.val (scrD ns), c1, .own (.list (cs.map fun (c : Nat) => .int c)), .val (.int m), c4, c5, .val (.int a'), .val (.int p), .val (.int f), z9', z10, z11, z12, z13, .own (.list mv)]) ∧ mv.length = n ∧ ∀ x ∈ mv, MoveOk m f c x := by
  obtain ⟨ρ', e, mv, a', z9', rfl, h1, h2⟩ := forR_run (tg := tgN 9) (m := (sSeq (sApp 14 (xCall (f_law_move) [(xVar 0), (xVar 6), (xVar 9), (xVar 8), (xIxA (xVar 2) (xVar 7)), (xVar 3)]))
  (sAsg 6 (xAdd (xVar 6) (xC (.int 1)))))) (ds := rangeD 0 n) (ρ := [.val (scrD ns), c1, .own (.list (cs.map fun (c : Nat) => .int c)), .val (.int m), c4, c5, .val (.int a), .val (.int p), .val (.int f), z9, z10, z11, z12, z13, .own (.list [])])
    (fun j ρ => ∃ (mv : List D) (a' : Nat) (z9' : C), ρ = [.val (scrD ns), c1, .own (.list (cs.map fun (c : Nat) => .int c)), .val (.int m), c4, c5, .val (.int a'), .val (.int p), .val (.int f), z9', z10, z11, z12, z13, .own (.list mv)] ∧ mv.length = j ∧ ∀ x ∈ mv, MoveOk m f c x)
    ⟨[], a, z9, rfl, rfl, by simp⟩
    (fun j hj ρ => by
      rintro ⟨mv, a', z9', rfl, h1, h2⟩
      rw [rangeD0_get hj]
      have hj' : j < n := by rw [rangeD_len] at hj; omega
      obtain ⟨d, ed, hd⟩ := move_is ns a' j f c m (by omega) hc hm
      have id : imm d = true := by obtain ⟨_, _, _, _, _, _, _, h⟩ := hd; exact h
      have sl : mv.length < 10000000 := by omega
      refine ⟨_, [.val (scrD ns), c1, .own (.list (cs.map fun (c : Nat) => .int c)), .val (.int m), c4, c5, .val (.int ((a' + 1 : Nat) : Int)), .val (.int p), .val (.int f), .val (.int j), z10, z11, z12, z13, .own (.list (mv ++ [d]))], rfl, .inl ?_, _, _, _, rfl, by simp [h1], mem_snoc h2 hd⟩
      simp [atI_n, hp, ed, settle_imm id, sl])
  have hl' : (rangeD 0 (n : Int)).length = n := by rw [rangeD_len]; omega
  rw [hl'] at h1
  exact ⟨mv, a', _, e, h1, h2⟩
theorem plant_is (ns : List Int) : ∃ m vars parts sens, f_law_plant [scrD ns] = some (plantD vars parts sens, false) ∧ PlantOk m vars parts sens := by
  obtain ⟨hs, eh, hh⟩ := draw_is ns [3, 2, 2, 2, 4, 4, 4, 3] 0 (by decide) (by decide) (by decide)
  have eh : f_law_draw [scrD ns, .int 0, .list [.int 3, .int 2, .int 2, .int 2, .int 4, .int 4, .int 4, .int 3]] = some (.list (hs.map .int), true) := eh
  obtain ⟨x0, q0, a0, b0⟩ := hh.at (j := 0) rfl
  obtain ⟨x1, q1, a1, b1⟩ := hh.at (j := 1) rfl
  obtain ⟨x2, q2, a2, b2⟩ := hh.at (j := 2) rfl
  obtain ⟨x3, q3, a3, b3⟩ := hh.at (j := 3) rfl
  have q0 : atI (hs.map PyData.int) 0 = some (.int x0) := q0
  have q1 : atI (hs.map PyData.int) 1 = some (.int x1) := q1
  have q2 : atI (hs.map PyData.int) 2 = some (.int x2) := q2
  have q3 : atI (hs.map PyData.int) 3 = some (.int x3) := q3
  simp at q1 q2 q3
  obtain ⟨n1, hn1⟩ : ∃ n : Nat, x1 = n := ⟨x1.toNat, by omega⟩
  obtain ⟨n2, hn2⟩ : ∃ n : Nat, x2 = n := ⟨x2.toNat, by omega⟩
  subst hn1 hn2
  obtain ⟨k, hk⟩ : ∃ k : Nat, 1 + (if x0 - x3 > 0 then x0 - x3 else 0) = k := ⟨(1 + (if x0 - x3 > 0 then x0 - x3 else 0)).toNat, by split <;> omega⟩
  have k1 : 1 ≤ k := by split at hk <;> omega
  let cb : List Nat := [1 + n1, 1 + n2, 1]
  have cbl : ∀ c ∈ cb, 1 ≤ c ∧ c ≤ 2 := by
    intro c hc
    simp only [cb, List.mem_cons, List.not_mem_nil, or_false] at hc
    omega
  obtain ⟨cs, hcs⟩ : ∃ cs : List Nat, cs = cb.take k := ⟨_, rfl⟩
  have csm : ∀ c ∈ cs, 1 ≤ c ∧ c ≤ 2 := fun c hc => cbl c (List.mem_of_mem_take (by rw [← hcs]; exact hc))
  have csl : cs.length ≤ 3 := by rw [hcs, List.length_take]; show min k 3 ≤ 3; omega
  have cs1 : 1 ≤ cs.length := by rw [hcs, List.length_take]; show 1 ≤ min k 3; omega
  have sum_le : ∀ l : List Nat, (∀ c ∈ l, 1 ≤ c ∧ c ≤ 2) → l.length ≤ l.sum ∧ l.sum ≤ 2 * l.length := by
    intro l
    induction l with
    | nil => intro _; simp
    | cons c l ih =>
      intro h
      have := h c List.mem_cons_self
      have := ih fun x hx => h x (List.mem_cons_of_mem _ hx)
      rw [List.sum_cons, List.length_cons]
      omega
  obtain ⟨m, hm⟩ : ∃ m, m = cs.sum := ⟨_, rfl⟩
  have mb := sum_le cs csm
  have m1 : 1 ≤ m := by omega
  have m6 : m ≤ 6 := by omega
  let S : D := scrD ns
  let HD : D := .list (hs.map .int)
  let CD' : D := .list (cs.map fun (c : Nat) => .int c)
  obtain ⟨sens, ess, ls, hss⟩ := sensors_is ns m (by omega)
  obtain ⟨ρ', e, vars, parts, a', z7, z8, z9, z10, z11, z12, z13, z14, rfl, h1, h2, h3, h4⟩ := forR_run (tg := tgN 7) (m := (sSeq (sAsg 8 (xLen (xVar 4)))
  (sSeq (sFor (tgN 9) (srcR1 (xIxA (xVar 2) (xVar 7)))
  (sSeq (sAsg 10 (xCall (f_law_draw) [(xVar 0), (xVar 6), (xLst [(xC (.int 3)), (xC (.int 3)), (xC (.int 3)), (xC (.int 3))])]))
  (sSeq (sAsg 11 (xSub (xIxA (xVar 10) (xC (.int 0))) (xC (.int 1))))
  (sSeq (sAsg 12 (xAdd (xVar 11) (xMod (xIxA (xVar 10) (xC (.int 2))) (xAdd (xIxA (xVar 10) (xC (.int 1))) (xC (.int 1))))))
  (sSeq (sAsg 13 (xAdd (xVar 12) (xMod (xIxA (xVar 10) (xC (.int 3))) (xAdd (xSub (xAdd (xVar 11) (xIxA (xVar 10) (xC (.int 1)))) (xVar 12)) (xC (.int 1))))))
  (sSeq (sApp 4 (xTup [(xAdd (xAdd (xAdd (xC (.str "p")) (xStrI (xVar 7))) (xC (.str ".v"))) (xStrI (xVar 9))), (xVar 11), (xAdd (xVar 11) (xIxA (xVar 10) (xC (.int 1)))), (xVar 12), (xVar 13)]))
  (sAsg 6 (xAdd (xVar 6) (xC (.int 1))))))))))
  (sSeq (sAsg 14 (xLst []))
  (sSeq (sFor (tgN 9) (srcR1 (xAdd (xC (.int 1)) (xMod (xIxA (xVar 1) (xAdd (xC (.int 4)) (xMod (xVar 7) (xC (.int 3))))) (xC (.int 4)))))
  (sSeq (sApp 14 (xCall (f_law_move) [(xVar 0), (xVar 6), (xVar 9), (xVar 8), (xIxA (xVar 2) (xVar 7)), (xVar 3)]))
  (sAsg 6 (xAdd (xVar 6) (xC (.int 1))))))
  (sApp 5 (xTup [(xAdd (xC (.str "p")) (xStrI (xVar 7))), (xVar 8), (xIxA (xVar 2) (xVar 7)), (xTuple (xVar 14))]))))))) (ds := rangeD 0 cs.length) (ρ := [.val S, .own HD, .own CD', .val (.int m), .own (.list []), .own (.list []), .val (.int 1), .un, .un, .un, .un, .un, .un, .un, .un])
    (fun p ρ => ∃ (vars parts : List D) (a' : Nat) (z7 z8 z9 z10 z11 z12 z13 z14 : C), ρ = [.val S, .own HD, .own CD', .val (.int m), .own (.list vars), .own (.list parts), .val (.int a'), z7, z8, z9, z10, z11, z12, z13, z14] ∧ vars.length = (cs.take p).sum ∧ (∀ v ∈ vars, VarOk v) ∧ parts.length = p ∧ ∀ q ∈ parts, PartOk m q)
    ⟨[], [], 1, .un, .un, .un, .un, .un, .un, .un, .un, rfl, by simp, by simp, rfl, by simp⟩
    (fun p hp ρ => by
      rintro ⟨vars, parts, a', z7, z8, z9, z10, z11, z12, z13, z14, rfl, h1, h2, h3, h4⟩
      rw [rangeD0_get hp]
      have hp' : p < cs.length := by rw [rangeD_len] at hp; omega
      have gc : cs[p]? = some cs[p] := List.getElem?_eq_getElem hp'
      have cc := csm _ (List.getElem_mem hp')
      have vl : vars.length ≤ 6 := by rw [h1]; have := take_le_sum cs p; omega
      obtain ⟨y, ey, y0, y1⟩ : ∃ y, atI (hs.map PyData.int) (4 + (p : Int) % 3) = some (.int y) ∧ 0 ≤ y ∧ y < 4 := by
        have : (p : Int) % 3 = 0 ∨ (p : Int) % 3 = 1 ∨ (p : Int) % 3 = 2 := by omega
        rcases this with h | h | h <;> rw [h]
        · exact hh.at (j := 4) rfl
        · exact hh.at (j := 5) rfl
        · exact hh.at (j := 6) rfl
      obtain ⟨n, hn⟩ : ∃ n : Nat, 1 + y % 4 = n := ⟨(1 + y % 4).toNat, by omega⟩
      obtain ⟨vs, a2, w9, w10, w11, w12, w13, e1, v1, v2⟩ := var_loop ns (.own HD) (.own CD') (.val (.int m)) (.own (.list parts)) (.val (.int vars.length)) z14 p cs[p] (by omega) cc.2 vars h2 (by omega) a' z9 z10 z11 z12 z13
      obtain ⟨mv, a3, u9, e2, v3, v4⟩ := move_loop ns (.own HD) (.own (.list (vars ++ vs))) (.own (.list parts)) w10 w11 w12 w13 p n vars.length cs[p] m cs gc cc.2 (by omega) (by omega) a2 w9
      obtain ⟨sp, ep, lp⟩ := str_small p (by omega)
      have d1 : dAdd (.str "p") (.str sp) = some (.str ("p" ++ sp), false) := dAdd_ss (by show 1 + sp.length ≤ 10000000; omega)
      have mi : immL mv = true := immL_all fun d hd => by obtain ⟨_, _, _, _, _, _, _, h⟩ := v4 d hd; exact h
      refine ⟨_, [.val S, .own HD, .own CD', .val (.int m), .own (.list (vars ++ vs)), .own (.list (parts ++ [.tuple [.str ("p" ++ sp), .int vars.length, .int cs[p], .tuple mv]])), .val (.int a3), .val (.int p), .val (.int vars.length), u9, w10, w11, w12, w13, .own (.list mv)], rfl, .inl ?_, _, _, _, _, _, _, _, _, _, _, _, rfl, ?_, ?_, by simp [h3], mem_snoc h4 ⟨_, vars.length, cs[p], mv, rfl, cc.1, cc.2, by omega, v4⟩⟩
      · simp only [List.set_cons_succ, List.set_cons_zero]
        rw [sSeq_go (ρ' := [.val S, .own HD, .own CD', .val (.int m), .own (.list vars), .own (.list parts), .val (.int a'), .val (.int p), .val (.int vars.length), z9, z10, z11, z12, z13, z14]) (by simp)]
        rw [sSeq_go (by
          have R : rgOk (cs[p] : Int) = true := rgOk_n (by omega)
          rw [sFor_ap, srcR1_ev]
          simp only [CD', xIxA, x2_ev, xVar_ev, getR_s, getR_v0, getR_o0, Option.map_some, Option.bind_some, sc_ap, dIxA_l, dIx_l, atI_n, List.getElem?_map, gc, R, if_true]
          exact e1)]
        rw [sSeq_go (ρ' := [.val S, .own HD, .own CD', .val (.int m), .own (.list (vars ++ vs)), .own (.list parts), .val (.int a2), .val (.int p), .val (.int vars.length), w9, w10, w11, w12, w13, .own (.list [])]) (by simp [S])]
        rw [sSeq_go (by
          have R : rgOk (n : Int) = true := rgOk_n (by omega)
          have t1 : modOk (p : Int) 3 = true := modOk_b (by decide)
          have t2 : modOk y 4 = true := modOk_b (by decide)
          have hev : (xAdd (xC (.int 1)) (xMod (xIxA (xVar 1) (xAdd (xC (.int 4)) (xMod (xVar 7) (xC (.int 3))))) (xC (.int 4)))).ev [.val S, .own HD, .own CD', .val (.int m), .own (.list (vars ++ vs)), .own (.list parts), .val (.int a2), .val (.int p), .val (.int vars.length), w9, w10, w11, w12, w13, .own (.list [])] = some (.int n, false) := by simp [HD, t1, t2, ey, hn]
          rw [sFor_ap, srcR1_ev, hev]
          simp only [Option.bind_some, R, if_true]
          exact e2)]
        have pl : parts.length < 10000000 := by omega
        simp [CD', S, ep, d1, atI_n, gc, pl, settle_cons, imm, immL, mi]
      · have t : cs.take (p + 1) = cs.take p ++ [cs[p]] := by rw [List.take_add_one, gc]; rfl
        rw [List.length_append, h1, v1, t, List.sum_append]
        simp
      · intro v hv
        rcases List.mem_append.mp hv with hv | hv
        · exact h2 v hv
        · exact v2 v hv)
  have hl : (rangeD 0 (cs.length : Int)).length = cs.length := by rw [rangeD_len]; omega
  rw [hl] at h1 h3
  rw [List.take_of_length_le (Nat.le_refl _)] at h1
  refine ⟨m, vars, parts, sens, run_of rfl ?_, ⟨by rw [h1, hm], m1, m6, h2, h4, by omega, ls, hss⟩⟩
  show m_law_plant [.val S, .un, .un, .un, .un, .un, .un, .un, .un, .un, .un, .un, .un, .un, .un] = _
  unfold m_law_plant
  rw [sSeq_go (ρ' := [.val S, .own HD, .un, .un, .un, .un, .un, .un, .un, .un, .un, .un, .un, .un, .un]) (by simp [S, HD, eh, settle_cons])]
  have ct : cutD (cb.map fun (c : Nat) => PyData.int c) none (some (k : Int)) = cs.map fun (c : Nat) => PyData.int c := by rw [cutD_take, hcs, List.map_take]
  rw [sSeq_go (ρ' := [.val S, .own HD, .own CD', .un, .un, .un, .un, .un, .un, .un, .un, .un, .un, .un, .un]) (by
    simp [cb] at ct
    have hk' : (1 + if x3 < x0 then x0 - x3 else 0 : Int) = k := by
      rw [← hk]
      by_cases c : x3 < x0
      · rw [if_pos c, if_pos (by omega)]
      · rw [if_neg c, if_neg (by omega)]
    simp [HD, CD', q0, q1, q2, q3, hk', ct])]
  have sm := sum_nat cs
  rw [← hm] at sm
  rw [sSeq_go (ρ' := [.val S, .own HD, .own CD', .val (.int m), .un, .un, .un, .un, .un, .un, .un, .un, .un, .un, .un]) (by simp [CD', sm])]
  rw [sSeq_go (ρ' := [.val S, .own HD, .own CD', .val (.int m), .own (.list []), .un, .un, .un, .un, .un, .un, .un, .un, .un, .un]) (by simp)]
  rw [sSeq_go (ρ' := [.val S, .own HD, .own CD', .val (.int m), .own (.list []), .own (.list []), .un, .un, .un, .un, .un, .un, .un, .un, .un]) (by simp)]
  rw [sSeq_go (ρ' := [.val S, .own HD, .own CD', .val (.int m), .own (.list []), .own (.list []), .val (.int 1), .un, .un, .un, .un, .un, .un, .un, .un]) (by simp)]
  rw [sSeq_go (by
    have R : rgOk (cs.length : Int) = true := rgOk_n (by omega)
    rw [sFor_ap, srcR1_ev]
    simp only [CD', xLen, x1_ev, sc1_ap, xVar_ev, getR_s, getR_o0, Option.map_some, Option.bind_some, dLen_l, List.length_map, R, if_true]
    exact e)]
  simp [S, ess, plantD]
end Wd
namespace Wd
open PySem PySem.Spec L2
theorem ex_map {α : Type} {f : α → D} {P : α → Prop} : ∀ {l : List D}, (∀ d ∈ l, ∃ a, d = f a ∧ P a) → ∃ L : List α, l = L.map f ∧ ∀ a ∈ L, P a
  | [], _ => ⟨[], rfl, by simp⟩
  | d :: l, h => by
    obtain ⟨a, rfl, pa⟩ := h d List.mem_cons_self
    obtain ⟨L, rfl, pL⟩ := ex_map (l := l) fun x hx => h x (List.mem_cons_of_mem _ hx)
    exact ⟨a :: L, rfl, fun b hb => (List.mem_cons.mp hb).elim (fun e => by rw [e]; exact pa) (pL b)⟩
structure Sn where
  nm : Str
  t : D
  tol : Int
  b : Bool
  x : Int
  y : Int
def Sn.d (s : Sn) : D := .tuple [.str s.nm, s.t, .int s.tol, .bool s.b]
/-- its values at W1, W2 -/
structure SnOk (W1 W2 : D) (s : Sn) : Prop where
  v1 : f_value_of 4 [s.t, W1] = some (.int s.x, false)
  v2 : f_value_of 4 [s.t, W2] = some (.int s.y, false)
  l1 : f_law_value 4 [s.t, W1] = some (.int s.x, false)
  l2 : f_law_value 4 [s.t, W2] = some (.int s.y, false)
  t0 : 0 ≤ s.tol
  t2 : s.tol ≤ 2
  bx : s.x.natAbs < 10 ^ 5
  by' : s.y.natAbs < 10 ^ 5
theorem two_ok (i : Int) : mulOk 2 i = true := mulOk_l (by decide)
theorem absE (i : Int) : (if i < 0 then -i else i) = (i.natAbs : Int) := by split <;> omega
/-- what a sensor may show -/
def optS (s : Sn) : List D := rangeD (s.x - s.tol) (s.x + s.tol + 1) ++ (if s.b = true then [.none] else [])
def boxL (rows : List (List D)) (os : List D) : List (List D) := rows.flatMap fun r => os.map fun o => r ++ [o]
def rowsOf (L : List Sn) : List (List D) := L.foldl (fun rows s => boxL rows (optS s)) [[]]
theorem boxL_len (rows : List (List D)) (os : List D) : (boxL rows os).length = rows.length * os.length := by
  induction rows with
  | nil => simp [boxL]
  | cons r rows ih =>
    have : boxL (r :: rows) os = (os.map fun o => r ++ [o]) ++ boxL rows os := rfl
    rw [this, List.length_append, ih, List.length_map, List.length_cons, Nat.succ_mul]
    omega
theorem optS_len {s : Sn} (h0 : 0 ≤ s.tol) (h2 : s.tol ≤ 2) : (optS s).length ≤ 6 := by
  unfold optS
  rw [List.length_append, rangeD_len]
  split <;> simp <;> omega
theorem box_is (rows : List (List D)) (os : List D) (h1 : rows.length ≤ 100) (h2 : os.length ≤ 100) (h3 : ∀ r ∈ rows, r.length ≤ 100) : f_law_box [.list (rows.map .tuple), .list os] = some (.list ((boxL rows os).map .tuple), true) := by
  have inner : ∀ (r : List D) (acc : List D) (z4 : C), r.length ≤ 100 → acc.length ≤ 100000 → ∃ z4', forR (tgN 4) (sApp 2 (xAdd (xVar 3) (xTup [(xVar 4)]))) os [.val (.list (rows.map .tuple)), .val (.list os), .own (.list acc), .val (.tuple r), z4] = some (.nx [.val (.list (rows.map .tuple)), .val (.list os), .own (.list (acc ++ os.map fun o => .tuple (r ++ [o]))), .val (.tuple r), z4']) := by
    intro r acc z4 hr ha
    obtain ⟨ρ', e, z, rfl⟩ := forR_run (tg := tgN 4) (m := (sApp 2 (xAdd (xVar 3) (xTup [(xVar 4)])))) (ds := os) (ρ := [.val (.list (rows.map .tuple)), .val (.list os), .own (.list acc), .val (.tuple r), z4])
      (fun k ρ => ∃ z, ρ = [.val (.list (rows.map .tuple)), .val (.list os), .own (.list (acc ++ (os.take k).map fun o => .tuple (r ++ [o]))), .val (.tuple r), z])
      ⟨z4, by simp⟩
      (fun k hk ρ => by
        rintro ⟨z, rfl⟩
        have tk : os.take (k + 1) = os.take k ++ [os[k]] := by rw [List.take_add_one, List.getElem?_eq_getElem hk]; rfl
        refine ⟨_, [.val (.list (rows.map .tuple)), .val (.list os), .own (.list (acc ++ (os.take (k + 1)).map fun o => .tuple (r ++ [o]))), .val (.tuple r), .val os[k]], rfl, .inl ?_, _, rfl⟩
        have d1 : dAdd (.tuple r) (.tuple [os[k]]) = some (.tuple (r ++ [os[k]]), false) := by
          show (if r.length + 1 ≤ LIM then some (PyData.tuple (r ++ [os[k]]), false) else none) = _
          rw [if_pos (by show _ ≤ 10000000; omega)]
        have sl : acc.length + min k os.length < 10000000 := by omega
        generalize os[k] = o at *
        simp [d1, tk, sl, settle_cons])
    rw [List.take_of_length_le (Nat.le_refl _)] at e
    exact ⟨z, e⟩
  obtain ⟨ρ', e, z3, z4, rfl⟩ := forR_run (tg := tgN 3) (m := (sFor (tgN 4) (srcV (xVar 1)) (sApp 2 (xAdd (xVar 3) (xTup [(xVar 4)]))))) (ds := rows.map .tuple) (ρ := [.val (.list (rows.map .tuple)), .val (.list os), .own (.list []), .un, .un])
    (fun k ρ => ∃ z3 z4, ρ = [.val (.list (rows.map .tuple)), .val (.list os), .own (.list ((boxL (rows.take k) os).map .tuple)), z3, z4])
    ⟨.un, .un, rfl⟩
    (fun k hk ρ => by
      rintro ⟨z3, z4, rfl⟩
      have hk' : k < rows.length := by simpa using hk
      rw [List.getElem_map]
      have tk : rows.take (k + 1) = rows.take k ++ [rows[k]] := by rw [List.take_add_one, List.getElem?_eq_getElem hk']; rfl
      have bl := boxL_len (rows.take k) os
      have b1 : (boxL (rows.take k) os).length ≤ 100 * 100 := by rw [bl]; exact Nat.mul_le_mul (by rw [List.length_take]; omega) h2
      obtain ⟨z4', e⟩ := inner rows[k] ((boxL (rows.take k) os).map .tuple) z4 (h3 _ (List.getElem_mem hk')) (by rw [List.length_map]; omega)
      refine ⟨_, _, rfl, .inl ?_, .val (.tuple rows[k]), z4', rfl⟩
      have e2 : (boxL (rows.take k) os).map PyData.tuple ++ os.map (fun o => PyData.tuple (rows[k] ++ [o])) = (boxL (rows.take (k + 1)) os).map .tuple := by
        rw [tk]
        unfold boxL
        rw [List.flatMap_append, List.map_append]
        simp
      rw [e2] at e
      simp only [List.set_cons_succ, List.set_cons_zero]
      rw [sFor_ap, srcV_ev]
      simp only [xVar_ev, getR_s, getR_v0, Option.map_some, Option.bind_some, dItems_l, xVar_lk]
      rw [show settle [1] (.list os) false [.val (.list (rows.map .tuple)), .val (.list os), .own (.list ((boxL (rows.take k) os).map .tuple)), .val (.tuple rows[k]), z4] = [.val (.list (rows.map .tuple)), .val (.list os), .own (.list ((boxL (rows.take k) os).map .tuple)), .val (.tuple rows[k]), z4] by rw [settle_cons]; split <;> rfl]
      exact e)
  rw [List.length_map, List.take_of_length_le (Nat.le_refl _)] at e
  refine run_of rfl ?_
  show m_law_box [.val (.list (rows.map .tuple)), .val (.list os), .un, .un, .un] = _
  unfold m_law_box
  rw [sSeq_go (ρ' := [.val (.list (rows.map .tuple)), .val (.list os), .own (.list []), .un, .un]) (by simp)]
  rw [sSeq_go (by
    rw [sFor_ap, srcV_ev]
    simp only [xVar_ev, getR_s, getR_v0, Option.map_some, Option.bind_some, dItems_l, xVar_lk]
    rw [show settle [0] (.list (rows.map .tuple)) false [.val (.list (rows.map .tuple)), .val (.list os), .own (.list []), .un, .un] = [.val (.list (rows.map .tuple)), .val (.list os), .own (.list []), .un, .un] by rw [settle_cons]; split <;> rfl]
    exact e)]
  simp
theorem rowsOf_bound {L : List Sn} (h : ∀ s ∈ L, 0 ≤ s.tol ∧ s.tol ≤ 2) (hl : L.length ≤ 2) : (rowsOf L).length ≤ 36 := by
  match L, hl with
  | [], _ => decide
  | [a], _ =>
    have := optS_len (h a (by simp)).1 (h a (by simp)).2
    show (boxL [[]] (optS a)).length ≤ 36
    rw [boxL_len]
    simp; omega
  | [a, b], _ =>
    have h1 := optS_len (h a (by simp)).1 (h a (by simp)).2
    have h2 := optS_len (h b (by simp)).1 (h b (by simp)).2
    show (boxL (boxL [[]] (optS a)) (optS b)).length ≤ 36
    rw [boxL_len, boxL_len]
    have := Nat.mul_le_mul h1 h2
    simpa using this
def Fit : List Sn → List D → Prop
  | [], [] => True
  | s :: L, o :: os => o ∈ optS s ∧ Fit L os
  | _, _ => False
theorem mem_rows : ∀ (L : List Sn) (rows : List (List D)) (r : List D), r ∈ L.foldl (fun rows s => boxL rows (optS s)) rows ↔ ∃ r0 ∈ rows, ∃ os, r = r0 ++ os ∧ Fit L os
  | [], rows, r => by
    constructor
    · intro h; exact ⟨r, h, [], by simp, True.intro⟩
    · rintro ⟨r0, h, os, rfl, f⟩
      cases os with
      | nil => simpa using h
      | cons o os => exact f.elim
  | s :: L, rows, r => by
    rw [List.foldl_cons, mem_rows L]
    constructor
    · rintro ⟨r1, h1, os, rfl, f⟩
      obtain ⟨r0, h0, h2⟩ := List.mem_flatMap.mp h1
      obtain ⟨o, ho, rfl⟩ := List.mem_map.mp h2
      exact ⟨r0, h0, o :: os, by simp, ho, f⟩
    · rintro ⟨r0, h0, os, rfl, f⟩
      cases os with
      | nil => exact f.elim
      | cons o os => exact ⟨r0 ++ [o], List.mem_flatMap.mpr ⟨r0, h0, List.mem_map.mpr ⟨o, f.1, rfl⟩⟩, os, by simp, f.2⟩
theorem mem_rowsOf {L : List Sn} {r : List D} : r ∈ rowsOf L ↔ Fit L r := by
  unfold rowsOf
  rw [mem_rows]
  constructor
  · rintro ⟨r0, h0, os, rfl, f⟩
    rw [List.mem_singleton] at h0
    subst h0
    exact f
  · intro f; exact ⟨[], by simp, r, rfl, f⟩
theorem Fit.len : ∀ {L : List Sn} {r : List D}, Fit L r → r.length = L.length
  | [], [], _ => rfl
  | s :: L, o :: os, f => by simp [Fit.len f.2]
  | [], _ :: _, f => f.elim
  | _ :: _, [], f => f.elim
theorem optS_mem {s : Sn} {o : D} (h : o ∈ optS s) : (o = .none ∧ s.b = true) ∨ ∃ i, o = .int i ∧ s.x - s.tol ≤ i ∧ i ≤ s.x + s.tol := by
  unfold optS at h
  rcases List.mem_append.mp h with h | h
  · obtain ⟨k, rfl, hk⟩ := mem_rangeD h
    exact .inr ⟨_, rfl, by omega, by omega⟩
  · split at h
    · next hb =>
      rw [List.mem_singleton] at h
      exact .inl ⟨h, hb⟩
    · simp at h
theorem Fit.imm : ∀ {L : List Sn} {r : List D}, Fit L r → immL r = true
  | [], [], _ => rfl
  | s :: L, o :: os, f => by
    rw [immL, Fit.imm f.2]
    rcases optS_mem f.1 with ⟨rfl, _⟩ | ⟨i, rfl, _⟩ <;> rfl
  | [], _ :: _, f => f.elim
  | _ :: _, [], f => f.elim
theorem rowsOf_imm {L : List Sn} : immL ((rowsOf L).map PyData.tuple) = true := immL_all fun d hd => by
  obtain ⟨r, hr, rfl⟩ := List.mem_map.mp hd
  show immL r = true
  exact (mem_rowsOf.mp hr).imm
section
variable {vars parts : List D} {L : List Sn} {W1 W2 : D}
theorem readings_is (h : ∀ s ∈ L, SnOk W1 W2 s) (hl : L.length ≤ 2) : f_law_readings [plantD vars parts (L.map Sn.d), W1] = some (.list ((rowsOf L).map .tuple), true) := by
  obtain ⟨ρ', e, z3, z4, z5, rfl⟩ := forR_run (tg := tgN 3) (m := (sSeq (sAsg 4 (xCall (f_law_value 4) [(xIxA (xVar 3) (xC (.int 1))), (xVar 1)]))
  (sSeq (sAsg 5 (xLstR (xSub (xVar 4) (xIxA (xVar 3) (xC (.int 2)))) (xAdd (xAdd (xVar 4) (xIxA (xVar 3) (xC (.int 2)))) (xC (.int 1)))))
  (sSeq (sIf (xIxA (xVar 3) (xC (.int 3)))
  (sAsg 5 (xAdd (xVar 5) (xLst [(xC .none)])))
  sNx)
  (sAsg 2 (xCall (f_law_box) [(xVar 2), (xVar 5)])))))) (ds := L.map Sn.d) (ρ := [.val (plantD vars parts (L.map Sn.d)), .val W1, .own (.list [.tuple []]), .un, .un, .un])
    (fun k ρ => ∃ z3 z4 z5, ρ = [.val (plantD vars parts (L.map Sn.d)), .val W1, .own (.list ((rowsOf (L.take k)).map .tuple)), z3, z4, z5])
    ⟨.un, .un, .un, rfl⟩
    (fun k hk ρ => by
      rintro ⟨z3, z4, z5, rfl⟩
      have hk' : k < L.length := by simpa using hk
      rw [List.getElem_map]
      have S := h _ (List.getElem_mem hk')
      have tk : L.take (k + 1) = L.take k ++ [L[k]] := by rw [List.take_add_one, List.getElem?_eq_getElem hk']; rfl
      have rb := rowsOf_bound (L := L.take k) (fun s hs => ⟨(h s (List.mem_of_mem_take hs)).t0, (h s (List.mem_of_mem_take hs)).t2⟩) (by rw [List.length_take]; omega)
      have rl : ∀ r ∈ rowsOf (L.take k), r.length ≤ 100 := fun r hr => by rw [(mem_rowsOf.mp hr).len, List.length_take]; omega
      generalize hs : L[k] = s at *
      have bx := box_is (rowsOf (L.take k)) (optS s) (by omega) (by have := optS_len S.t0 S.t2; omega) rl
      have e1 : rowsOf (L.take (k + 1)) = boxL (rowsOf (L.take k)) (optS s) := by rw [tk]; unfold rowsOf; rw [List.foldl_append]; rfl
      have t0 := S.t0
      have t2 := S.t2
      have bb := S.bx
      have R1 : rgOk (s.x - s.tol) = true := rgOk_b (by omega) (by omega)
      have R2 : rgOk (s.x + s.tol + 1) = true := rgOk_b (by omega) (by omega)
      have R3 : (s.x + s.tol + 1 - (s.x - s.tol)).toNat ≤ 10000000 := by omega
      refine ⟨_, [.val (plantD vars parts (L.map Sn.d)), .val W1, .own (.list ((rowsOf (L.take (k + 1))).map .tuple)), .val s.d, .val (.int s.x), .own (.list (optS s))], rfl, .inl ?_, _, _, _, rfl⟩
      simp only [List.set_cons_succ, List.set_cons_zero]
      rw [sSeq_go (ρ' := [.val (plantD vars parts (L.map Sn.d)), .val W1, .own (.list ((rowsOf (L.take k)).map .tuple)), .val s.d, .val (.int s.x), z5]) (by simp [Sn.d, S.l1])]
      rw [sSeq_go (ρ' := [.val (plantD vars parts (L.map Sn.d)), .val W1, .own (.list ((rowsOf (L.take k)).map .tuple)), .val s.d, .val (.int s.x), .own (.list (rangeD (s.x - s.tol) (s.x + s.tol + 1)))]) (by
        simp only [Int.sub_eq_add_neg] at R3
        simp [Sn.d, R1, R2, Int.sub_eq_add_neg] at *
        simp [R1, R2, R3])]
      rw [sSeq_go (ρ' := [.val (plantD vars parts (L.map Sn.d)), .val W1, .own (.list ((rowsOf (L.take k)).map .tuple)), .val s.d, .val (.int s.x), .own (.list (optS s))]) (by
        cases cb : s.b with
        | false => simp [Sn.d, cb, optS]
        | true =>
          have d1 : dAdd (.list (rangeD (s.x - s.tol) (s.x + s.tol + 1))) (.list [.none]) = some (.list (rangeD (s.x - s.tol) (s.x + s.tol + 1) ++ [.none]), true) := by
            show (if (rangeD (s.x - s.tol) (s.x + s.tol + 1)).length + 1 ≤ LIM then some (PyData.list (rangeD (s.x - s.tol) (s.x + s.tol + 1) ++ [.none]), true) else none) = _
            rw [if_pos (by rw [rangeD_len]; show _ ≤ 10000000; omega)]
          simp [Sn.d, cb, optS, d1])]
      have im := rowsOf_imm (L := L.take (k + 1))
      rw [e1] at im ⊢
      simp [bx, settle_cons, immTop, im])
  rw [List.length_map, List.take_of_length_le (Nat.le_refl _)] at e
  refine run_of rfl ?_
  show m_law_readings [.val (plantD vars parts (L.map Sn.d)), .val W1, .un, .un, .un, .un] = _
  unfold m_law_readings
  rw [sSeq_go (ρ' := [.val (plantD vars parts (L.map Sn.d)), .val W1, .own (.list [.tuple []]), .un, .un, .un]) (by simp)]
  rw [sSeq_go (by simp [plantD] at e ⊢; exact e)]
  simp
end
structure Vr where
  nm : Str
  le : Int
  sz : Int
  lo : Int
  hi : Int
def Vr.d (v : Vr) : D := .tuple [.str v.nm, .int v.le, .int (v.le + v.sz), .int v.lo, .int v.hi]
def VrOk (v : Vr) : Prop := -1 ≤ v.le ∧ v.le ≤ 1 ∧ 0 ≤ v.sz ∧ v.sz ≤ 2
end Wd
namespace Wd
open PySem PySem.Spec L2
theorem lcR_mapA14 {α : Type} {tg : D → Rho → Option Rho} {tt : Rho → Option Bool} {el : Rho → Option (D × Bool)} {ρ : Rho} {g h : α → D} : ∀ {U : List α}, (∀ u ∈ U, ∃ ρ1 fr, tg (g u) ρ = some ρ1 ∧ tt ρ1 = some true ∧ el ρ1 = some (h u, fr)) → lcR tg tt el ρ (U.map g) = some (U.map h)
  | [], _ => rfl
  | u :: U, H => by
    obtain ⟨ρ1, fr, e1, e2, e3⟩ := H u List.mem_cons_self
    rw [List.map_cons, lcR_cons, e1]
    simp only [Option.bind_some, e2, if_true, e3, lcR_mapA14 (U := U) fun x hx => H x (List.mem_cons_of_mem _ hx), List.map_cons]
/-- how many readings, by counting -/
def facC (s : Sn) : Int := 2 * s.tol + 1 + (if s.b = true then 1 else 0)
def prodC (L : List Sn) : Int := L.foldl (fun p s => p * facC s) 1
theorem optS_lenE {s : Sn} (h0 : 0 ≤ s.tol) : ((optS s).length : Int) = facC s := by
  unfold optS facC
  rw [List.length_append, rangeD_len]
  split <;> simp <;> omega
theorem foldl_len : ∀ (L : List Sn) (rows : List (List D)) (p : Int), (∀ s ∈ L, 0 ≤ s.tol) → (rows.length : Int) = p → ((L.foldl (fun rows s => boxL rows (optS s)) rows).length : Int) = L.foldl (fun p s => p * facC s) p
  | [], rows, p, _, e => e
  | s :: L, rows, p, h, e => by
    rw [List.foldl_cons, List.foldl_cons]
    refine foldl_len L _ _ (fun x hx => h x (List.mem_cons_of_mem _ hx)) ?_
    rw [boxL_len, Int.natCast_mul, e, optS_lenE (h s List.mem_cons_self)]
theorem rowsOf_lenE {L : List Sn} (h : ∀ s ∈ L, 0 ≤ s.tol) : ((rowsOf L).length : Int) = prodC L := foldl_len L [[]] 1 h rfl
theorem prodC_snoc {L : List Sn} {s : Sn} : prodC (L ++ [s]) = prodC L * facC s := by
  unfold prodC
  rw [List.foldl_append]
  rfl
theorem facC_pos {s : Sn} (h : 0 ≤ s.tol) : 1 ≤ facC s := by unfold facC; split <;> omega
theorem prodC_pos {L : List Sn} (h : ∀ s ∈ L, 0 ≤ s.tol) : 1 ≤ prodC L := by
  have go : ∀ (L : List Sn) (p : Int), 1 ≤ p → (∀ s ∈ L, 0 ≤ s.tol) → 1 ≤ L.foldl (fun p s => p * facC s) p := by
    intro L
    induction L with
    | nil => intro p hp _; exact hp
    | cons s L ih =>
      intro p hp h
      refine ih _ ?_ fun x hx => h x (List.mem_cons_of_mem _ hx)
      show 1 ≤ p * facC s
      have := facC_pos (h s List.mem_cons_self)
      have := Int.mul_le_mul hp this (by decide) (by omega)
      omega
  exact go L 1 (by decide) h
theorem min_mul {a c m : Int} (ha : 1 ≤ a) (hc : 1 ≤ c) (hm : 1 ≤ m) : (if m < (if m < a then m else a) * c then m else (if m < a then m else a) * c) = if m < a * c then m else a * c := by
  by_cases h : m < a
  · rw [if_pos h]
    have h1 := Int.mul_le_mul_of_nonneg_left hc (show 0 ≤ m by omega)
    have h2 := Int.mul_le_mul_of_nonneg_left hc (show 0 ≤ a by omega)
    rw [Int.mul_one] at h1 h2
    rw [if_pos (show m < a * c by omega)]
    split
    · rfl
    · omega
  · rw [if_neg h]
section
variable {v1 v2 : D} {L : List Sn} {W1 : D}
theorem count_is (h : ∀ s ∈ L, 0 ≤ s.tol) (hw : ∀ s ∈ L, s.tol < 2000) (m : Int) (hm : 0 ≤ m) (hm2 : m < 1000) : f_count_readings [.tuple [v1, v2, .tuple (L.map Sn.d)], W1, .int m] = some (.int (if m + 1 < prodC L then m + 1 else prodC L), false) := by
  obtain ⟨ρ', e, z4, rfl⟩ := forR_run (tg := tgN 4) (m := (sAsg 3 (xMin2 (xMul (xVar 3) (xAdd (xAdd (xMul (xC (.int 2)) (xIxA (xVar 4) (xC (.int 2)))) (xC (.int 1))) (xIntT (xIxA (xVar 4) (xC (.int 3)))))) (xAdd (xVar 2) (xC (.int 1)))))) (ds := L.map Sn.d) (ρ := [.val (.tuple [v1, v2, .tuple (L.map Sn.d)]), .val W1, .val (.int m), .val (.int 1), .un])
    (fun k ρ => ∃ z4, ρ = [.val (.tuple [v1, v2, .tuple (L.map Sn.d)]), .val W1, .val (.int m), .val (.int (if m + 1 < prodC (L.take k) then m + 1 else prodC (L.take k))), z4])
    ⟨.un, by
      have : ¬ m + 1 < prodC (L.take 0) := by show ¬ m + 1 < 1; omega
      rw [if_neg this]; rfl⟩
    (fun k hk ρ => by
      rintro ⟨z4, rfl⟩
      have hk' : k < L.length := by simpa using hk
      rw [List.getElem_map]
      have t0 := h _ (List.getElem_mem hk')
      have tk : L.take (k + 1) = L.take k ++ [L[k]] := by rw [List.take_add_one, List.getElem?_eq_getElem hk']; rfl
      have pp := prodC_pos (L := L.take k) fun s hs => h s (List.mem_of_mem_take hs)
      generalize L[k] = s at *
      have fp := facC_pos t0
      have key := min_mul pp fp (show 1 ≤ m + 1 by omega)
      rw [← prodC_snoc, ← tk] at key
      generalize prodC (L.take (k + 1)) = P1 at *
      refine ⟨_, [.val (.tuple [v1, v2, .tuple (L.map Sn.d)]), .val W1, .val (.int m), .val (.int (if m + 1 < P1 then m + 1 else P1)), .val s.d], rfl, .inl ?_, _, rfl⟩
      rw [← key]
      have mo : ∀ j, mulOk (if m + 1 < prodC (L.take k) then m + 1 else prodC (L.take k)) j = true := fun j => mulOk_l (by split <;> omega)
      have m2 : ∀ j, mulOk 2 j = true := fun j => mulOk_l (by decide)
      generalize (if m + 1 < prodC (L.take k) then m + 1 else prodC (L.take k)) = A at *
      unfold facC
      simp [Sn.d, m2, mo])
  rw [List.length_map, List.take_of_length_le (Nat.le_refl _)] at e
  refine run_of rfl ?_
  show m_count_readings [.val (.tuple [v1, v2, .tuple (L.map Sn.d)]), .val W1, .val (.int m), .un, .un] = _
  unfold m_count_readings
  rw [sSeq_go (ρ' := [.val (.tuple [v1, v2, .tuple (L.map Sn.d)]), .val W1, .val (.int m), .val (.int 1), .un]) (by simp)]
  rw [sSeq_go (ρ' := [.val (.tuple [v1, v2, .tuple (L.map Sn.d)]), .val W1, .val (.int m), .val (.int (if m + 1 < prodC L then m + 1 else prodC L)), z4]) (by
    have hev : (srcV (xIxA (xVar 0) (xC (.int 2)))).ev [.val (.tuple [v1, v2, .tuple (L.map Sn.d)]), .val W1, .val (.int m), .val (.int 1), .un] = some (L.map Sn.d, [.val (.tuple [v1, v2, .tuple (L.map Sn.d)]), .val W1, .val (.int m), .val (.int 1), .un]) := by simp
    rw [sFor_ap, hev]
    exact e)]
  simp
end
section
variable {vars parts : List D} {L : List Sn} {W1 : D}
theorem options_is {s : Sn} (S : SnOk W1 W1 s) : f_options_of [s.d, W1] = some (.list (optS s), true) := by
  have t0 := S.t0
  have t2 := S.t2
  have bb := S.bx
  have R1 : rgOk (s.x - s.tol) = true := rgOk_b (by omega) (by omega)
  have R2 : rgOk (s.x + s.tol + 1) = true := rgOk_b (by omega) (by omega)
  have R3 : (s.x + s.tol + 1 - (s.x - s.tol)).toNat ≤ 10000000 := by omega
  refine run_of rfl ?_
  show m_options_of [.val s.d, .val W1, .un, .un] = _
  unfold m_options_of
  rw [sSeq_go (ρ' := [.val s.d, .val W1, .val (.int s.x), .un]) (by simp [Sn.d, S.v1])]
  rw [sSeq_go (ρ' := [.val s.d, .val W1, .val (.int s.x), .own (.list (rangeD (s.x - s.tol) (s.x + s.tol + 1)))]) (by
    simp only [Int.sub_eq_add_neg] at R3
    simp [Sn.d, R1, R2, Int.sub_eq_add_neg] at *
    simp [R1, R2, R3])]
  rw [sSeq_go (ρ' := [.val s.d, .val W1, .val (.int s.x), .own (.list (optS s))]) (by
    cases cb : s.b with
    | false => simp [Sn.d, cb, optS]
    | true =>
      have rl : (rangeD (s.x - s.tol) (s.x + s.tol + 1)).length < 10000000 := by rw [rangeD_len]; omega
      simp [Sn.d, cb, optS, rl])]
  simp
theorem readings_at_is (h : ∀ s ∈ L, SnOk W1 W1 s) (hl : L.length ≤ 2) : f_readings_at [plantD vars parts (L.map Sn.d), W1] = some (.list ((rowsOf L).map .tuple), true) := by
  obtain ⟨ρ', e, z3, z4, z5, z6, rfl⟩ := forR_run (tg := tgN 3) (m := (sSeq (sAsg 4 (xCall (f_options_of) [(xVar 3), (xVar 1)]))
  (sAsg 2 (xLc2 [5, 6] (tgN 5) none (srcV (xVar 2)) [6] (tgN 6) none (srcV (xVar 4)) (xAdd (xVar 5) (xTup [(xVar 6)])))))) (ds := L.map Sn.d) (ρ := [.val (plantD vars parts (L.map Sn.d)), .val W1, .own (.list [.tuple []]), .un, .un, .un, .un])
    (fun k ρ => ∃ z3 z4 z5 z6, ρ = [.val (plantD vars parts (L.map Sn.d)), .val W1, .own (.list ((rowsOf (L.take k)).map .tuple)), z3, z4, z5, z6])
    ⟨.un, .un, .un, .un, rfl⟩
    (fun k hk ρ => by
      rintro ⟨z3, z4, z5, z6, rfl⟩
      have hk' : k < L.length := by simpa using hk
      rw [List.getElem_map]
      have S := h _ (List.getElem_mem hk')
      have tk : L.take (k + 1) = L.take k ++ [L[k]] := by rw [List.take_add_one, List.getElem?_eq_getElem hk']; rfl
      have rb := rowsOf_bound (L := L.take k) (fun s hs => ⟨(h s (List.mem_of_mem_take hs)).t0, (h s (List.mem_of_mem_take hs)).t2⟩) (by rw [List.length_take]; omega)
      have rb1 := rowsOf_bound (L := L.take (k + 1)) (fun s hs => ⟨(h s (List.mem_of_mem_take hs)).t0, (h s (List.mem_of_mem_take hs)).t2⟩) (by rw [List.length_take]; omega)
      have rl : ∀ r ∈ rowsOf (L.take k), r.length ≤ 100 := fun r hr => by rw [(mem_rowsOf.mp hr).len, List.length_take]; omega
      have im0 := rowsOf_imm (L := L.take k)
      generalize hs : L[k] = s at *
      have op := options_is S
      have ol := optS_len S.t0 S.t2
      have io : immL (optS s) = true := immL_all fun d hd => by rcases optS_mem hd with ⟨rfl, _⟩ | ⟨i, rfl, _⟩ <;> rfl
      have e1 : rowsOf (L.take (k + 1)) = boxL (rowsOf (L.take k)) (optS s) := by rw [tk]; unfold rowsOf; rw [List.foldl_append]; rfl
      have im := rowsOf_imm (L := L.take (k + 1))
      rw [e1] at im rb1 ⊢
      generalize rowsOf (L.take k) = R at *
      generalize optS s = O at *
      have cp : ∀ ρ0 c2, ρ0 = [.val (plantD vars parts (L.map Sn.d)), .val W1, c2, .val s.d, .own (.list O), .un, .un] → lcR2 (tgN 5) (ttR none) (srcV (xVar 4)) [6] (tgN 6) (ttR none) (xAdd (xVar 5) (xTup [(xVar 6)])).ev ρ0 (R.map .tuple) = some (R.flatMap fun r => O.map fun o => .tuple (r ++ [o])) := fun ρ0 c2 h0 => by
        subst h0
        refine lcR2_map fun r hr => ?_
        have := rl r hr
        -- the source leans on slot 4; a list of ints is left as it is, the slot is settled
        refine ⟨[.val (plantD vars parts (L.map Sn.d)), .val W1, c2, .val s.d, .own (.list O), .val (.tuple r), .un], (O, settle [4] (.list O) false [.val (plantD vars parts (L.map Sn.d)), .val W1, c2, .val s.d, .own (.list O), .val (.tuple r), .un]), rfl, rfl, by simp, ?_⟩
        have sv : ∃ c4, settle [4] (.list O) false [.val (plantD vars parts (L.map Sn.d)), .val W1, c2, .val s.d, .own (.list O), .val (.tuple r), .un] = [.val (plantD vars parts (L.map Sn.d)), .val W1, c2, .val s.d, c4, .val (.tuple r), .un] := by
          rw [settle_cons]
          split
          · exact ⟨_, rfl⟩
          · exact ⟨.val (.list O), by simp⟩
        obtain ⟨c4, sv⟩ := sv
        rw [sv]
        have := lcR_mapA14 (tg := tgN 6) (tt := ttR none) (el := (xAdd (xVar 5) (xTup [(xVar 6)])).ev) (ρ := [.val (plantD vars parts (L.map Sn.d)), .val W1, c2, .val s.d, c4, .val (.tuple r), .un]) (g := fun o => o) (h := fun o => .tuple (r ++ [o])) (U := O) (fun o ho => ⟨_, false, rfl, rfl, by
          have d1 : dAdd (.tuple r) (.tuple [o]) = some (.tuple (r ++ [o]), false) := by
            show (if r.length + 1 ≤ LIM then some (PyData.tuple (r ++ [o]), false) else none) = _
            rw [if_pos (by show _ ≤ 10000000; omega)]
          simp [d1]⟩)
        rw [List.map_id'] at this
        exact this
      have bm : (R.flatMap fun r => O.map fun o => PyData.tuple (r ++ [o])) = (boxL R O).map .tuple := by
        unfold boxL
        rw [List.map_flatMap]
        simp [Function.comp_def]
      refine ⟨_, [.val (plantD vars parts (L.map Sn.d)), .val W1, .own (.list ((boxL R O).map .tuple)), .val s.d, .own (.list O), z5, z6], rfl, .inl ?_, _, _, _, _, rfl⟩
      simp only [List.set_cons_succ, List.set_cons_zero]
      rw [sSeq_go (ρ' := [.val (plantD vars parts (L.map Sn.d)), .val W1, .own (.list (R.map .tuple)), .val s.d, .own (.list O), z5, z6]) (by simp [op, settle_cons, immTop, io])]
      have b1 := cp _ (.val (.list (R.map .tuple))) rfl
      rw [bm] at b1
      have bl : (boxL R O).length < 10000000 := by omega
      simp at b1
      simp [settle_cons, imm, immTop, im, b1, bl])
  rw [List.length_map, List.take_of_length_le (Nat.le_refl _)] at e
  refine run_of rfl ?_
  show m_readings_at [.val (plantD vars parts (L.map Sn.d)), .val W1, .un, .un, .un, .un, .un] = _
  unfold m_readings_at
  rw [sSeq_go (ρ' := [.val (plantD vars parts (L.map Sn.d)), .val W1, .own (.list [.tuple []]), .un, .un, .un, .un]) (by simp)]
  rw [sSeq_go (ρ' := [.val (plantD vars parts (L.map Sn.d)), .val W1, .own (.list ((rowsOf L).map .tuple)), z3, z4, z5, z6]) (by
    have hev : (srcV (xIxA (xVar 0) (xC (.int 2)))).ev [.val (plantD vars parts (L.map Sn.d)), .val W1, .own (.list [.tuple []]), .un, .un, .un, .un] = some (L.map Sn.d, [.val (plantD vars parts (L.map Sn.d)), .val W1, .own (.list [.tuple []]), .un, .un, .un, .un]) := by simp [plantD]
    rw [sFor_ap, hev]
    exact e)]
  simp
end
end Wd
namespace Wd
open PySem PySem.Spec L2
def Elem (o : D) : Prop := o = .none ∨ ∃ i : Int, o = .int i
def okX (s : Sn) : D → Bool
  | .none => s.b
  | .int i => decide (((i - s.x).natAbs : Int) ≤ s.tol)
  | _ => false
def shX (L : List Sn) (r : List D) : Bool := decide (r.length = L.length) && (L.zip r).all fun p => okX p.1 p.2
section
variable {vars parts : List D} {L : List Sn} {W1 : D}
theorem can_show_is (h : ∀ s ∈ L, SnOk W1 W1 s) (hl : L.length ≤ 2) {r : List D} (f : ∀ o ∈ r, Elem o) (hr : r.length ≤ 1000) : f_can_show [plantD vars parts (L.map Sn.d), W1, .tuple r] = some (.bool (shX L r), false) := by
  refine run_of rfl ?_
  show m_can_show [.val (plantD vars parts (L.map Sn.d)), .val W1, .val (.tuple r), .un, .un] = _
  unfold m_can_show
  by_cases rl : r.length = L.length
  · rw [sSeq_go (ρ' := [.val (plantD vars parts (L.map Sn.d)), .val W1, .val (.tuple r), .un, .un]) (by simp [plantD, rl])]
    obtain ⟨o, e, q⟩ := forR_ex (tg := tgN 3) (m := (sSeq (sAsg 4 (xIxA (xIxA (xVar 0) (xC (.int 2))) (xVar 3)))
  (sIf (xIs (xIxA (xVar 2) (xVar 3)) (xC .none))
  (sIf (xNot (xIxA (xVar 4) (xC (.int 3))))
  (sRet (xC (.bool false)))
  sNx)
  (sIf (xGt (xAbs (xSub (xIxA (xVar 2) (xVar 3)) (xCall (f_value_of 4) [(xIxA (xVar 4) (xC (.int 1))), (xVar 1)]))) (xIxA (xVar 4) (xC (.int 2))))
  (sRet (xC (.bool false)))
  sNx)))) (ds := rangeD 0 r.length) (ρ := [.val (plantD vars parts (L.map Sn.d)), .val W1, .val (.tuple r), .un, .un])
      (fun k ρ => ∃ z3 z4, ρ = [.val (plantD vars parts (L.map Sn.d)), .val W1, .val (.tuple r), z3, z4] ∧ ((L.zip r).take k).all (fun p => okX p.1 p.2) = true)
      (fun o => o = .rt (.bool false) false ∧ (L.zip r).all (fun p => okX p.1 p.2) = false)
      ⟨.un, .un, rfl, rfl⟩
      (fun k hk ρ => by
        rintro ⟨z3, z4, rfl, a⟩
        rw [rangeD0_get hk]
        have hk' : k < r.length := by rw [rangeD_len] at hk; omega
        have hk2 : k < L.length := by omega
        have S := h _ (List.getElem_mem hk2)
        have fm := f _ (List.getElem_mem hk')
        have hz : k < (L.zip r).length := by rw [List.length_zip]; omega
        have tk : (L.zip r).take (k + 1) = (L.zip r).take k ++ [(L[k], r[k])] := by rw [List.take_add_one, List.getElem?_eq_getElem hz, List.getElem_zip]; rfl
        have mz : (L[k], r[k]) ∈ L.zip r := by rw [← List.getElem_zip (h := hz)]; exact List.getElem_mem hz
        have gr : r[k]? = some r[k] := List.getElem?_eq_getElem hk'
        have gs : L[k]? = some L[k] := List.getElem?_eq_getElem hk2
        generalize L[k] = s at *
        generalize r[k] = o at *
        have as : ∀ z4, sAsg 4 (xIxA (xIxA (xVar 0) (xC (.int 2))) (xVar 3)) [.val (plantD vars parts (L.map Sn.d)), .val W1, .val (.tuple r), .val (.int k), z4] = some (.nx [.val (plantD vars parts (L.map Sn.d)), .val W1, .val (.tuple r), .val (.int k), .val s.d]) := fun z4 => by simp [plantD, atI_n, gs]
        by_cases c : okX s o = true
        · refine ⟨_, .nx [.val (plantD vars parts (L.map Sn.d)), .val W1, .val (.tuple r), .val (.int k), .val s.d], rfl, ?_, .inl ⟨_, .inl rfl, _, _, rfl, by rw [tk, List.all_append, a]; simp [c]⟩⟩
          simp only [List.set_cons_succ, List.set_cons_zero]
          rw [sSeq_go (as z4)]
          rcases fm with rfl | ⟨i, rfl⟩
          · have hb : s.b = true := c
            simp [Sn.d, atI_n, gr, hb]
          · have c' := of_decide_eq_true c
            have n1 : ¬ s.tol < ((i - s.x).natAbs : Int) := by omega
            simp [Sn.d, atI_n, gr, S.v1, absE, n1]
        · refine ⟨_, _, rfl, ?_, .inr (.inr ⟨_, _, rfl, rfl, ?_⟩)⟩
          · simp only [List.set_cons_succ, List.set_cons_zero]
            rw [sSeq_go (as z4)]
            rcases fm with rfl | ⟨i, rfl⟩
            · have hb : s.b = false := by cases hb : s.b; rfl; exact absurd hb c
              simp [Sn.d, atI_n, gr, hb]
            · have c' : ¬ ((i - s.x).natAbs : Int) ≤ s.tol := fun z => c (decide_eq_true z)
              have n1 : s.tol < ((i - s.x).natAbs : Int) := by omega
              simp [Sn.d, atI_n, gr, S.v1, absE, n1]
          · rw [List.all_eq_false]
            exact ⟨_, mz, c⟩)
    have R : rgOk (r.length : Int) = true := rgOk_n (by omega)
    have hl' : (rangeD 0 (r.length : Int)).length = (L.zip r).length := by rw [rangeD_len, List.length_zip]; omega
    have sx : shX L r = (L.zip r).all fun p => okX p.1 p.2 := by unfold shX; rw [decide_eq_true rl, Bool.true_and]
    rw [sx]
    rcases q with ⟨ρ', rfl, z3, z4, rfl, a⟩ | ⟨rfl, a⟩
    · rw [hl', List.take_of_length_le (Nat.le_refl _)] at a
      rw [sSeq_go (by rw [sFor_ap, srcR1_ev]; simp only [xLen, x1_ev, sc1_ap, xVar_ev, getR_s, getR_v0, Option.map_some, Option.bind_some, dLen_t, R, if_true]; exact e), a]
      simp
    · rw [sSeq_rt (d := .bool false) (fr := false) (by rw [sFor_ap, srcR1_ev]; simp only [xLen, x1_ev, sc1_ap, xVar_ev, getR_s, getR_v0, Option.map_some, Option.bind_some, dLen_t, R, if_true]; exact e), a]
  · have : shX L r = false := by unfold shX; rw [decide_eq_false rl, Bool.false_and]
    rw [sSeq_rt (d := .bool false) (fr := false) (by
      have rl' : ¬ (r.length : Int) = (L.length : Int) := by omega
      simp [plantD, rl, rl']), this]
theorem lshows_is (h : ∀ s ∈ L, SnOk W1 W1 s) (hl : L.length ≤ 2) {r : List D} (f : ∀ o ∈ r, Elem o) (hr : r.length ≤ 1000) : f_law_shows [plantD vars parts (L.map Sn.d), W1, .list r] = some (.bool (shX L r), false) := by
  refine run_of rfl ?_
  show m_law_shows [.val (plantD vars parts (L.map Sn.d)), .val W1, .val (.list r), .un, .un] = _
  unfold m_law_shows
  by_cases rl : r.length = L.length
  · rw [sSeq_go (ρ' := [.val (plantD vars parts (L.map Sn.d)), .val W1, .val (.list r), .un, .un]) (by simp [plantD, rl])]
    obtain ⟨o, e, q⟩ := forR_ex (tg := tgN 3) (m := (sSeq (sAsg 4 (xCall (f_law_value 4) [(xIxA (xIxA (xIxA (xVar 0) (xC (.int 2))) (xVar 3)) (xC (.int 1))), (xVar 1)]))
  (sIf (xIs (xIxA (xVar 2) (xVar 3)) (xC .none))
  (sIf (xNot (xIxA (xIxA (xIxA (xVar 0) (xC (.int 2))) (xVar 3)) (xC (.int 3))))
  (sRet (xC (.bool false)))
  sNx)
  (sIf (xOr (xLt (xIxA (xVar 2) (xVar 3)) (xSub (xVar 4) (xIxA (xIxA (xIxA (xVar 0) (xC (.int 2))) (xVar 3)) (xC (.int 2))))) (xGt (xIxA (xVar 2) (xVar 3)) (xAdd (xVar 4) (xIxA (xIxA (xIxA (xVar 0) (xC (.int 2))) (xVar 3)) (xC (.int 2))))))
  (sRet (xC (.bool false)))
  sNx)))) (ds := rangeD 0 r.length) (ρ := [.val (plantD vars parts (L.map Sn.d)), .val W1, .val (.list r), .un, .un])
      (fun k ρ => ∃ z3 z4, ρ = [.val (plantD vars parts (L.map Sn.d)), .val W1, .val (.list r), z3, z4] ∧ ((L.zip r).take k).all (fun p => okX p.1 p.2) = true)
      (fun o => o = .rt (.bool false) false ∧ (L.zip r).all (fun p => okX p.1 p.2) = false)
      ⟨.un, .un, rfl, rfl⟩
      (fun k hk ρ => by
        rintro ⟨z3, z4, rfl, a⟩
        rw [rangeD0_get hk]
        have hk' : k < r.length := by rw [rangeD_len] at hk; omega
        have hk2 : k < L.length := by omega
        have S := h _ (List.getElem_mem hk2)
        have fm := f _ (List.getElem_mem hk')
        have hz : k < (L.zip r).length := by rw [List.length_zip]; omega
        have tk : (L.zip r).take (k + 1) = (L.zip r).take k ++ [(L[k], r[k])] := by rw [List.take_add_one, List.getElem?_eq_getElem hz, List.getElem_zip]; rfl
        have mz : (L[k], r[k]) ∈ L.zip r := by rw [← List.getElem_zip (h := hz)]; exact List.getElem_mem hz
        have gr : r[k]? = some r[k] := List.getElem?_eq_getElem hk'
        have gs : L[k]? = some L[k] := List.getElem?_eq_getElem hk2
        generalize L[k] = s at *
        generalize r[k] = o at *
        have as : ∀ z4, sAsg 4 (xCall (f_law_value 4) [(xIxA (xIxA (xIxA (xVar 0) (xC (.int 2))) (xVar 3)) (xC (.int 1))), (xVar 1)]) [.val (plantD vars parts (L.map Sn.d)), .val W1, .val (.list r), .val (.int k), z4] = some (.nx [.val (plantD vars parts (L.map Sn.d)), .val W1, .val (.list r), .val (.int k), .val (.int s.x)]) := fun z4 => by simp [plantD, Sn.d, atI_n, gs, S.l1]
        by_cases c : okX s o = true
        · refine ⟨_, .nx [.val (plantD vars parts (L.map Sn.d)), .val W1, .val (.list r), .val (.int k), .val (.int s.x)], rfl, ?_, .inl ⟨_, .inl rfl, _, _, rfl, by rw [tk, List.all_append, a]; simp [c]⟩⟩
          simp only [List.set_cons_succ, List.set_cons_zero]
          rw [sSeq_go (as z4)]
          rcases fm with rfl | ⟨i, rfl⟩
          · have hb : s.b = true := c
            simp [plantD, Sn.d, atI_n, gs, gr, hb]
          · have c' := of_decide_eq_true c
            have n1 : ¬ i < s.x - s.tol := by omega
            have n2 : ¬ s.x + s.tol < i := by omega
            simp [plantD, Sn.d, atI_n, gs, gr, n1, n2]
        · refine ⟨_, _, rfl, ?_, .inr (.inr ⟨_, _, rfl, rfl, ?_⟩)⟩
          · simp only [List.set_cons_succ, List.set_cons_zero]
            rw [sSeq_go (as z4)]
            rcases fm with rfl | ⟨i, rfl⟩
            · have hb : s.b = false := by cases hb : s.b; rfl; exact absurd hb c
              simp [plantD, Sn.d, atI_n, gs, gr, hb]
            · have c' : ¬ ((i - s.x).natAbs : Int) ≤ s.tol := fun z => c (decide_eq_true z)
              by_cases n1 : i < s.x - s.tol
              · simp [plantD, Sn.d, atI_n, gs, gr, n1]
              · have n2 : s.x + s.tol < i := by omega
                simp [plantD, Sn.d, atI_n, gs, gr, n1, n2]
          · rw [List.all_eq_false]
            exact ⟨_, mz, c⟩)
    have R : rgOk (r.length : Int) = true := rgOk_n (by omega)
    have hl' : (rangeD 0 (r.length : Int)).length = (L.zip r).length := by rw [rangeD_len, List.length_zip]; omega
    have sx : shX L r = (L.zip r).all fun p => okX p.1 p.2 := by unfold shX; rw [decide_eq_true rl, Bool.true_and]
    rw [sx]
    rcases q with ⟨ρ', rfl, z3, z4, rfl, a⟩ | ⟨rfl, a⟩
    · rw [hl', List.take_of_length_le (Nat.le_refl _)] at a
      rw [sSeq_go (by rw [sFor_ap, srcR1_ev]; simp only [xLen, x1_ev, sc1_ap, xVar_ev, getR_s, getR_v0, Option.map_some, Option.bind_some, dLen_l, R, if_true]; exact e), a]
      simp
    · rw [sSeq_rt (d := .bool false) (fr := false) (by rw [sFor_ap, srcR1_ev]; simp only [xLen, x1_ev, sc1_ap, xVar_ev, getR_s, getR_v0, Option.map_some, Option.bind_some, dLen_l, R, if_true]; exact e), a]
  · have : shX L r = false := by unfold shX; rw [decide_eq_false rl, Bool.false_and]
    rw [sSeq_rt (d := .bool false) (fr := false) (by
      have rl' : ¬ (r.length : Int) = (L.length : Int) := by omega
      simp [plantD, rl, rl']), this]
end
end Wd
namespace Wd
open PySem PySem.Spec L2
theorem Fit.elem : ∀ {L : List Sn} {r : List D}, Fit L r → ∀ o ∈ r, Elem o
  | s :: L, o :: os, f, x, hx => by
    rcases List.mem_cons.mp hx with rfl | hx
    · rcases optS_mem f.1 with ⟨rfl, _⟩ | ⟨i, rfl, _⟩
      · exact .inl rfl
      · exact .inr ⟨i, rfl⟩
    · exact Fit.elem f.2 x hx
  | [], [], _, x, hx => by simp at hx
  | [], _ :: _, f, _, _ => f.elim
  | _ :: _, [], f, _, _ => f.elim
theorem Elem.plain {o : D} (h : Elem o) (n : Nat) : plainN (n + 1) o := by
  rcases h with rfl | ⟨i, rfl⟩ <;> exact True.intro
theorem alike_int (t : Int) : f_law_alike 6 [.int t, .int t] = some (.bool true, false) := alike_self (by simp [plainN])
theorem alike_bool (t : Bool) : f_law_alike 6 [.bool t, .bool t] = some (.bool true, false) := alike_self (by simp [plainN])
theorem elems_set {r : List D} {k : Nat} {o : D} (h : ∀ x ∈ r, Elem x) (ho : Elem o) : ∀ x ∈ r.set k o, Elem x := fun x hx => by
  rcases List.mem_or_eq_of_mem_set hx with hx | rfl
  · exact h x hx
  · exact ho
theorem setD_l {r : List D} {k : Nat} {v : D} (h : k < r.length) : setD (.list r) (.int k) v = some (.list (r.set k v)) := by
  show ((ixN r.length (k : Int)).map fun j => PyData.list (r.set j v)) = _
  have : ixN r.length (k : Int) = some k := by
    unfold ixN
    rw [if_pos (by omega), if_pos (by omega)]
    congr 1
  rw [this]
  rfl
/-- the choices change the reading -/
theorem change_is (c0 c1 c2 c3 c4 c6 c7 c8 c9 c10 c12 : C) (hs : List Int) (x0 x2 x3 : Int) (h0 : atI (hs.map PyData.int) 0 = some (.int x0)) (h2 : hs[2]? = some x2) (h3 : hs[3]? = some x3) (n2 : 0 ≤ x2) (r : List D) (hr : r.length ≤ 900) (er : ∀ x ∈ r, Elem x) (rest : Sm) (o : Option Out)
    (fin : ∀ r' : List D, r'.length ≤ 1000 → (∀ x ∈ r', Elem x) → rest [c0, c1, c2, c3, c4, .own (.list (hs.map .int)), c6, c7, c8, c9, c10, .own (.list r'), c12] = o) :
    (sSeq (sIf (xAnd (xEq (xIxA (xVar 5) (xC (.int 0))) (xC (.int 1))) (xGt (xLen (xVar 11)) (xC (.int 0))))
  (sSetI 11 (xMod (xIxA (xVar 5) (xC (.int 2))) (xLen (xVar 11))) (xSub (xIxA (xVar 5) (xC (.int 3))) (xC (.int 4))))
  sNx)
  (sSeq (sIf (xAnd (xEq (xIxA (xVar 5) (xC (.int 0))) (xC (.int 2))) (xGt (xLen (xVar 11)) (xC (.int 0))))
  (sSetI 11 (xMod (xIxA (xVar 5) (xC (.int 2))) (xLen (xVar 11))) (xC .none))
  sNx)
  (sSeq (sIf (xEq (xIxA (xVar 5) (xC (.int 0))) (xC (.int 3)))
  (sApp 11 (xSub (xIxA (xVar 5) (xC (.int 3))) (xC (.int 4))))
  sNx)
  (sSeq (sIf (xAnd (xEq (xIxA (xVar 5) (xC (.int 0))) (xC (.int 4))) (xGt (xLen (xVar 11)) (xC (.int 0))))
  (sPop 11)
  sNx) rest)))) [c0, c1, c2, c3, c4, .own (.list (hs.map .int)), c6, c7, c8, c9, c10, .own (.list r), c12] = o := by
  have go : ∀ (ρ ρ' : Rho) (c : Sm) (k : Sm), c ρ = some (.nx ρ') → sSeq c k ρ = k ρ' := fun ρ ρ' c k e => sSeq_go e
  have rl : r.length < 10000000 := by omega
  by_cases e1 : x0 = 1 ∧ 0 < r.length
  · obtain ⟨rfl, e2⟩ := e1
    have q0 := Int.emod_nonneg x2 (show (r.length : Int) ≠ 0 by omega)
    have q1 := Int.emod_lt_of_pos x2 (show 0 < (r.length : Int) by omega)
    obtain ⟨k, hk⟩ : ∃ k : Nat, x2 % (r.length : Int) = k := ⟨(x2 % (r.length : Int)).toNat, by omega⟩
    have mo : modOk x2 (r.length : Int) = true := modOk_b (by omega)
    rw [sSeq_go (ρ' := [c0, c1, c2, c3, c4, .own (.list (hs.map .int)), c6, c7, c8, c9, c10, .own (.list (r.set k (.int (x3 - 4)))), c12]) (by simp [h0, h2, h3, e2, mo, hk, setD_l (show k < r.length by omega)])]
    rw [sSeq_go (ρ' := [c0, c1, c2, c3, c4, .own (.list (hs.map .int)), c6, c7, c8, c9, c10, .own (.list (r.set k (.int (x3 - 4)))), c12]) (by simp [h0])]
    rw [sSeq_go (ρ' := [c0, c1, c2, c3, c4, .own (.list (hs.map .int)), c6, c7, c8, c9, c10, .own (.list (r.set k (.int (x3 - 4)))), c12]) (by simp [h0])]
    rw [sSeq_go (ρ' := [c0, c1, c2, c3, c4, .own (.list (hs.map .int)), c6, c7, c8, c9, c10, .own (.list (r.set k (.int (x3 - 4)))), c12]) (by simp [h0])]
    exact fin _ (by rw [List.length_set]; omega) (elems_set er (.inr ⟨_, rfl⟩))
  · rw [sSeq_go (ρ' := [c0, c1, c2, c3, c4, .own (.list (hs.map .int)), c6, c7, c8, c9, c10, .own (.list r), c12]) (by
      by_cases a : x0 = 1
      · have : r = [] := by have : ¬ 0 < r.length := fun z => e1 ⟨a, z⟩; exact List.eq_nil_of_length_eq_zero (by omega)
        subst this
        simp [h0, a]
      · simp [h0, a])]
    by_cases e2 : x0 = 2 ∧ 0 < r.length
    · obtain ⟨rfl, e3⟩ := e2
      have q0 := Int.emod_nonneg x2 (show (r.length : Int) ≠ 0 by omega)
      have q1 := Int.emod_lt_of_pos x2 (show 0 < (r.length : Int) by omega)
      obtain ⟨k, hk⟩ : ∃ k : Nat, x2 % (r.length : Int) = k := ⟨(x2 % (r.length : Int)).toNat, by omega⟩
      have mo : modOk x2 (r.length : Int) = true := modOk_b (by omega)
      rw [sSeq_go (ρ' := [c0, c1, c2, c3, c4, .own (.list (hs.map .int)), c6, c7, c8, c9, c10, .own (.list (r.set k .none)), c12]) (by simp [h0, h2, e3, mo, hk, setD_l (show k < r.length by omega)])]
      rw [sSeq_go (ρ' := [c0, c1, c2, c3, c4, .own (.list (hs.map .int)), c6, c7, c8, c9, c10, .own (.list (r.set k .none)), c12]) (by simp [h0])]
      rw [sSeq_go (ρ' := [c0, c1, c2, c3, c4, .own (.list (hs.map .int)), c6, c7, c8, c9, c10, .own (.list (r.set k .none)), c12]) (by simp [h0])]
      exact fin _ (by rw [List.length_set]; omega) (elems_set er (.inl rfl))
    · rw [sSeq_go (ρ' := [c0, c1, c2, c3, c4, .own (.list (hs.map .int)), c6, c7, c8, c9, c10, .own (.list r), c12]) (by
        by_cases a : x0 = 2
        · have : r = [] := by have : ¬ 0 < r.length := fun z => e2 ⟨a, z⟩; exact List.eq_nil_of_length_eq_zero (by omega)
          subst this
          simp [h0, a]
        · simp [h0, a])]
      by_cases e3 : x0 = 3
      · subst e3
        rw [sSeq_go (ρ' := [c0, c1, c2, c3, c4, .own (.list (hs.map .int)), c6, c7, c8, c9, c10, .own (.list (r ++ [.int (x3 - 4)])), c12]) (by simp [h0, h3, rl])]
        rw [sSeq_go (ρ' := [c0, c1, c2, c3, c4, .own (.list (hs.map .int)), c6, c7, c8, c9, c10, .own (.list (r ++ [.int (x3 - 4)])), c12]) (by simp [h0])]
        exact fin _ (by simp; omega) (mem_snoc er (.inr ⟨_, rfl⟩))
      · rw [sSeq_go (ρ' := [c0, c1, c2, c3, c4, .own (.list (hs.map .int)), c6, c7, c8, c9, c10, .own (.list r), c12]) (by simp [h0, e3])]
        by_cases e4 : x0 = 4 ∧ 0 < r.length
        · obtain ⟨rfl, e5⟩ := e4
          have ne : r ≠ [] := fun z => by rw [z] at e5; simp at e5
          rw [sSeq_go (ρ' := [c0, c1, c2, c3, c4, .own (.list (hs.map .int)), c6, c7, c8, c9, c10, .own (.list r.dropLast), c12]) (by simp [h0, e5, ne])]
          exact fin _ (by rw [List.length_dropLast]; omega) fun x hx => er x (List.mem_of_mem_take (by rw [← List.dropLast_eq_take]; exact hx))
        · rw [sSeq_go (ρ' := [c0, c1, c2, c3, c4, .own (.list (hs.map .int)), c6, c7, c8, c9, c10, .own (.list r), c12]) (by
            by_cases a : x0 = 4
            · have : r = [] := by have : ¬ 0 < r.length := fun z => e4 ⟨a, z⟩; exact List.eq_nil_of_length_eq_zero (by omega)
              subst this
              simp [h0, a]
            · simp [h0, a])]
          exact fin _ (by omega) er
end Wd
namespace Wd
open PySem PySem.Spec L2
theorem Sn.up {s : Sn} {W1 : D} (S : SnOk W1 W1 s) : 0 ≤ s.tol ∧ s.tol < 2000 := ⟨S.t0, by have := S.t2; omega⟩
theorem law_true (ns : List Int) (h : ns.length ≤ 63) : ∃ fr, f_law [scrD ns] = some (.bool true, fr) := by
  obtain ⟨m, vars, parts, sens, ep, P⟩ := plant_is ns
  obtain ⟨U, hU, oU⟩ := ex_map (f := Vr.d) (P := VrOk) (l := vars) fun d hd => by
    obtain ⟨nm, a, b, lo, hi, rfl, h1, h2, h3, h4, _⟩ := P.var d hd
    exact ⟨⟨nm, a, b, lo, hi⟩, rfl, h1, h2, h3, h4⟩
  subst hU
  have Ul : U.length = m := by rw [← P.len, List.length_map]
  have m6 := P.le
  obtain ⟨fs, ef, hf⟩ := drawn_rep ns 30 U.length 3 (by decide) (by decide) (by omega)
  have ef : f_law_draw [scrD ns, .int 30, .list (List.replicate U.length (.int 3))] = some (.list (fs.map .int), true) := ef
  have k3 := dMul_rep (x := .int 3) (n := U.length) (by omega)
  obtain ⟨hs, eh, hh⟩ := draw_is ns [5, 97, 9, 9, 60, 4, 1001] 31 (by decide) (by decide) (by decide)
  have eh : f_law_draw [scrD ns, .int 31, .list [.int 5, .int 97, .int 9, .int 9, .int 60, .int 4, .int 1001]] = some (.list (hs.map .int), true) := eh
  obtain ⟨x0, q0, a0, _⟩ := hh.get (j := 0) rfl
  obtain ⟨x1, q1, a1, b1⟩ := hh.get (j := 1) rfl
  obtain ⟨x2, q2, a2, _⟩ := hh.get (j := 2) rfl
  obtain ⟨x3, q3, a3, _⟩ := hh.get (j := 3) rfl
  obtain ⟨x4, q4, a4, b4⟩ := hh.get (j := 4) rfl
  obtain ⟨x5, q5, a5, _⟩ := hh.get (j := 5) rfl
  obtain ⟨x6, q6, a6, b6⟩ := hh.get (j := 6) rfl
  have h0 : atI (hs.map PyData.int) 0 = some (.int x0) := by rw [show (0 : Int) = (0 : Nat) from rfl, atI_n, List.getElem?_map, q0]; rfl
  let S : D := scrD ns
  let PL : D := plantD (U.map Vr.d) parts sens
  let FS : D := .list (fs.map .int)
  let HS : D := .list (hs.map .int)
  have fl : fs.length = U.length := hf.1
  -- the values
  obtain ⟨ys, e3, l3, p3⟩ := lcR_all (tg := tgN 12) (tt := ttR none) (el := (xAdd (xIxA (xIxA (xIxA (xVar 1) (xC (.int 0))) (xVar 12)) (xC (.int 1))) (xMod (xIxA (xVar 2) (xVar 12)) (xAdd (xSub (xIxA (xIxA (xIxA (xVar 1) (xC (.int 0))) (xVar 12)) (xC (.int 2))) (xIxA (xIxA (xIxA (xVar 1) (xC (.int 0))) (xVar 12)) (xC (.int 1)))) (xC (.int 1))))).ev) (ρ := [.val S, .val PL, .own FS, .un, .un, .un, .un, .un, .un, .un, .un, .un, .un]) (ds := rangeD 0 U.length) (fun d => ∃ v : Int, d = .int v ∧ v.natAbs < 2 ^ 3) (fun d hd => by
    obtain ⟨k, rfl, hk⟩ := mem_rangeD hd
    have hk' : k < U.length := by omega
    have gu : U[k]? = some U[k] := List.getElem?_eq_getElem hk'
    have ok := oU _ (List.getElem_mem hk')
    obtain ⟨y, ey, y0, y1⟩ := hf.2 k hk'
    unfold VrOk at ok
    generalize U[k] = u at *
    have sz : u.le + u.sz - u.le + 1 = u.sz + 1 := by omega
    have mo : modOk y (u.sz + 1) = true := modOk_b (by omega)
    have r0 := Int.emod_nonneg y (show u.sz + 1 ≠ 0 by omega)
    have r1 := Int.emod_lt_of_pos y (show 0 < u.sz + 1 by omega)
    exact ⟨_, .int (u.le + y % (u.sz + 1)), false, rfl, rfl, by simp [PL, FS, plantD, Vr.d, atI_n, gu, ey, sz, mo], _, rfl, by omega⟩)
  obtain ⟨vs, rfl, hv⟩ := ex_map (f := PyData.int) (P := fun v => v.natAbs < 2 ^ 3) (l := ys) fun d hd => by
    obtain ⟨v, rfl, h⟩ := p3 d hd
    exact ⟨v, rfl, h⟩
  have V1 : Vals m vs := ⟨by rw [List.length_map, rangeD_len] at l3; omega, hv⟩
  let W1 : D := .tuple (vs.map .int)
  have bd : Bd 2 = 4096 := by decide
  obtain ⟨L, hL, ok⟩ := ex_map (f := Sn.d) (P := SnOk W1 W1) (l := sens) fun d hd => by
    obtain ⟨nm, t, tol, b, rfl, ht, t0, t2⟩ := P.sen d hd
    obtain ⟨x, bx, hx⟩ := value_is V1 ht (by decide)
    obtain ⟨y1, y2⟩ := hx 3 (by decide)
    exact ⟨⟨nm, t, tol, b, x, x⟩, rfl, y1, y1, y2, y2, t0, t2, by show x.natAbs < _; omega, by show x.natAbs < _; omega⟩
  have Ll : L.length ≤ 2 := by have := P.lenS; rw [hL, List.length_map] at this; exact this
  have rd := readings_is (vars := U.map Vr.d) (parts := parts) ok Ll
  have ra := readings_at_is (vars := U.map Vr.d) (parts := parts) ok Ll
  have T0 : ∀ s ∈ L, 0 ≤ s.tol := fun s hs => (ok s hs).t0
  have rb := rowsOf_bound (L := L) (fun s hs => ⟨(ok s hs).t0, (ok s hs).t2⟩) Ll
  have rE := rowsOf_lenE T0
  have cn := count_is (v1 := .tuple (U.map Vr.d)) (v2 := .tuple parts) (W1 := W1) T0 (fun s hs => by have := (ok s hs).t2; omega) (1 + x4) (by omega) (by omega)
  have pp := prodC_pos T0
  rw [← hL] at rd ra cn
  have cs := fun (r : List D) (f : ∀ o ∈ r, Elem o) (hr : r.length ≤ 1000) => can_show_is (vars := U.map Vr.d) (parts := parts) ok Ll f hr
  have lsh := fun (r : List D) (f : ∀ o ∈ r, Elem o) (hr : r.length ≤ 1000) => lshows_is (vars := U.map Vr.d) (parts := parts) ok Ll f hr
  rw [← hL] at cs lsh
  let RW : D := .list ((rowsOf L).map .tuple)
  have al : f_law_alike 6 [RW, RW] = some (.bool true, false) := alike_self ⟨by rw [List.length_map]; omega, fun x hx => by
    obtain ⟨r, hr, rfl⟩ := List.mem_map.mp hx
    exact ⟨by rw [(mem_rowsOf.mp hr).len]; omega, fun o ho => ((mem_rowsOf.mp hr).elem o ho).plain 3⟩⟩
  have im : immL ((rowsOf L).map PyData.tuple) = true := rowsOf_imm
  refine ⟨false, run_of rfl ?_⟩
  show m_law [.val S, .un, .un, .un, .un, .un, .un, .un, .un, .un, .un, .un, .un] = _
  unfold m_law
  rw [sSeq_go (ρ' := [.val S, .val PL, .un, .un, .un, .un, .un, .un, .un, .un, .un, .un, .un]) (by simp [S, PL, ep, settle_cons])]
  rw [sSeq_go (ρ' := [.val S, .val PL, .own FS, .un, .un, .un, .un, .un, .un, .un, .un, .un, .un]) (by simp [S, PL, FS, plantD, k3, ef, settle_cons])]
  have R : rgOk (U.length : Int) = true := rgOk_n (by omega)
  have rl : (rangeD 0 (U.length : Int)).length < 10000000 := by rw [rangeD_len]; omega
  rw [sSeq_go (ρ' := [.val S, .val PL, .own FS, .val W1, .un, .un, .un, .un, .un, .un, .un, .un, .un]) (by
    simp at e3
    simp [FS, fl, R, rl, PL] at e3 ⊢
    simp [e3, settle_cons, W1])]
  rw [sSeq_go (ρ' := [.val S, .val PL, .own FS, .val W1, .own RW, .un, .un, .un, .un, .un, .un, .un, .un]) (by simp [PL, W1] at rd ⊢; simp [rd, RW, settle_cons])]
  rw [sSeq_go (ρ' := [.val S, .val PL, .own FS, .val W1, .own RW, .own HS, .un, .un, .un, .un, .un, .un, .un]) (by simp [S, HS, eh, settle_cons])]
  rw [sSeq_go (ρ' := [.val S, .val PL, .own FS, .val W1, .own RW, .own HS, .un, .un, .un, .un, .un, .un, .un]) (by simp [PL, W1, RW] at ra al ⊢; simp [ra, al])]
  rw [sSeq_go (ρ' := [.val S, .val PL, .own FS, .val W1, .own RW, .own HS, .val (.int (1 + x4)), .un, .un, .un, .un, .un, .un]) (by simp [HS, q4])]
  have rE' : (((rowsOf L).map PyData.tuple).length : Int) = prodC L := by rw [List.length_map]; exact rE
  have mn : (if 1 + x4 + 1 < prodC L then 1 + x4 + 1 else prodC L) = (if 1 + x4 + 1 < prodC L then 1 + x4 + 1 else prodC L) := rfl
  rw [sSeq_go (ρ' := [.val S, .val PL, .own FS, .val W1, .own RW, .own HS, .val (.int (1 + x4)), .un, .un, .un, .un, .un, .un]) (by
    have ai := alike_int (if 1 + x4 + 1 < prodC L then 1 + x4 + 1 else prodC L)
    simp only [sIf_ap, xNot_ev, xCall_ev, evL_cons, evL_nil, xVar_ev, getR_s, getR_v0, getR_o0, Option.map_some, Option.bind_some, PL, plantD, W1, cn, xMin2, x2_ev, sc_ap, xLen, x1_ev, sc1_ap, RW, dLen_l, rE', xAdd, xC_ev, dAdd_ii, dMin2_ii, ai, dNot_b, Bool.not_true, sNx_ap])]
  -- one wide sensor
  have wide : ∃ c7 c8 c9 c10, (sIf (xAnd (xEq (xIxA (xVar 5) (xC (.int 5))) (xC (.int 1))) (xGt (xLen (xIxA (xVar 1) (xC (.int 2)))) (xC (.int 0))))
  (sSeq (sAsg 7 (xIxA (xIxA (xVar 1) (xC (.int 2))) (xC (.int 0))))
  (sSeq (sAsg 8 (xTup [(xIxA (xVar 1) (xC (.int 0))), (xIxA (xVar 1) (xC (.int 1))), (xAdd (xTup [(xTup [(xIxA (xVar 7) (xC (.int 0))), (xIxA (xVar 7) (xC (.int 1))), (xIxA (xVar 5) (xC (.int 6))), (xIxA (xVar 7) (xC (.int 3)))])]) (xSl (xIxA (xVar 1) (xC (.int 2))) (some (xC (.int 1))) none))]))
  (sSeq (sAsg 9 (xC (.int 1)))
  (sSeq (sFor (tgN 10) (srcV (xIxA (xVar 8) (xC (.int 2))))
  (sAsg 9 (xMul (xVar 9) (xAdd (xAdd (xMul (xC (.int 2)) (xIxA (xVar 10) (xC (.int 2)))) (xC (.int 1))) (xIntT (xIxA (xVar 10) (xC (.int 3))))))))
  (sIf (xNot (xCall (f_law_alike 6) [(xCall (f_count_readings) [(xVar 8), (xVar 3), (xVar 6)]), (xMin2 (xVar 9) (xAdd (xVar 6) (xC (.int 1))))]))
  (sRet (xC (.bool false)))
  sNx)))))
  sNx) [.val S, .val PL, .own FS, .val W1, .own RW, .own HS, .val (.int (1 + x4)), .un, .un, .un, .un, .un, .un] = some (.nx [.val S, .val PL, .own FS, .val W1, .own RW, .own HS, .val (.int (1 + x4)), c7, c8, c9, c10, .un, .un]) := by
    by_cases c : x5 = 1 ∧ L ≠ []
    · obtain ⟨rfl, ne⟩ := c
      obtain ⟨s, L', rfl⟩ : ∃ s L', L = s :: L' := by
        cases L with
        | nil => exact absurd rfl ne
        | cons s L' => exact ⟨s, L', rfl⟩
      let s' : Sn := { s with tol := x6 }
      let LW : List Sn := s' :: L'
      have T1 : ∀ t ∈ LW, 0 ≤ t.tol ∧ t.tol < 2000 := fun t ht => by
        rcases List.mem_cons.mp ht with rfl | ht
        · exact ⟨a6, by show x6 < 2000; omega⟩
        · have := ok t (List.mem_cons_of_mem _ ht)
          exact ⟨this.t0, by have := this.t2; omega⟩
      have cw := count_is (v1 := .tuple (U.map Vr.d)) (v2 := .tuple parts) (W1 := W1) (L := LW) (fun t ht => (T1 t ht).1) (fun t ht => (T1 t ht).2) (1 + x4) (by omega) (by omega)
      let WD : D := .tuple [.tuple (U.map Vr.d), .tuple parts, .tuple (LW.map Sn.d)]
      have facb : ∀ t ∈ LW, facC t ≤ 4002 ∧ 1 ≤ facC t := fun t ht => by have := T1 t ht; refine ⟨?_, facC_pos this.1⟩; unfold facC; split <;> omega
      obtain ⟨ρ', e, z10, rfl⟩ := forR_run (tg := tgN 10) (m := (sAsg 9 (xMul (xVar 9) (xAdd (xAdd (xMul (xC (.int 2)) (xIxA (xVar 10) (xC (.int 2)))) (xC (.int 1))) (xIntT (xIxA (xVar 10) (xC (.int 3)))))))) (ds := LW.map Sn.d) (ρ := [.val S, .val PL, .own FS, .val W1, .own RW, .own HS, .val (.int (1 + x4)), .val s.d, .val WD, .val (.int 1), .un, .un, .un])
        (fun k ρ => ∃ z10, ρ = [.val S, .val PL, .own FS, .val W1, .own RW, .own HS, .val (.int (1 + x4)), .val s.d, .val WD, .val (.int (prodC (LW.take k))), z10, .un, .un])
        ⟨.un, rfl⟩
        (fun k hk ρ => by
          rintro ⟨z10, rfl⟩
          have hk' : k < LW.length := by simpa using hk
          rw [List.getElem_map]
          have tk : LW.take (k + 1) = LW.take k ++ [LW[k]] := by rw [List.take_add_one, List.getElem?_eq_getElem hk']; rfl
          have fb := facb _ (List.getElem_mem hk')
          generalize LW[k] = t at *
          rw [tk, prodC_snoc]
          have mo : mulOk (prodC (LW.take k)) (facC t) = true := mulOk_r (by omega)
          have m2 : ∀ j, mulOk 2 j = true := fun j => mulOk_l (by decide)
          refine ⟨_, _, rfl, .inl ?_, .val t.d, rfl⟩
          unfold facC at mo ⊢
          simp [Sn.d, m2, mo])
      rw [List.length_map, List.take_of_length_le (Nat.le_refl _)] at e
      refine ⟨.val s.d, .val WD, .val (.int (prodC LW)), z10, ?_⟩
      have cutE : cutD ((s :: L').map Sn.d) (some (1 : Int)) none = L'.map Sn.d := by
        have := cutD_drop (xs := (s :: L').map Sn.d) (m := 1)
        simpa using this
      have cond : (xAnd (xEq (xIxA (xVar 5) (xC (.int 5))) (xC (.int 1))) (xGt (xLen (xIxA (xVar 1) (xC (.int 2)))) (xC (.int 0)))).ev [.val S, .val PL, .own FS, .val W1, .own RW, .own HS, .val (.int (1 + x4)), .un, .un, .un, .un, .un, .un] = some (.bool true, false) := by
        simp [HS, PL, plantD, q5, hL]
      rw [sIf_ap, cond]
      simp only [Option.bind_some]
      rw [sSeq_go (ρ' := [.val S, .val PL, .own FS, .val W1, .own RW, .own HS, .val (.int (1 + x4)), .val s.d, .un, .un, .un, .un, .un]) (by simp [PL, plantD, hL])]
      rw [sSeq_go (ρ' := [.val S, .val PL, .own FS, .val W1, .own RW, .own HS, .val (.int (1 + x4)), .val s.d, .val WD, .un, .un, .un, .un]) (by
        have d1 : dAdd (.tuple [.tuple [.str s.nm, s.t, .int x6, .bool s.b]]) (.tuple (L'.map Sn.d)) = some (.tuple ([.tuple [.str s.nm, s.t, .int x6, .bool s.b]] ++ L'.map Sn.d), false) := by
          show (if 1 + (L'.map Sn.d).length ≤ LIM then some (PyData.tuple _, false) else none) = _
          rw [if_pos (by rw [List.length_map]; simp at Ll; show _ ≤ 10000000; omega)]
        rw [List.map_cons] at cutE
        simp [PL, plantD, hL, HS, q6, cutE, WD, LW, s']
        simp [Sn.d] at d1 ⊢
        simp [d1, settle_cons])]
      rw [sSeq_go (ρ' := [.val S, .val PL, .own FS, .val W1, .own RW, .own HS, .val (.int (1 + x4)), .val s.d, .val WD, .val (.int 1), .un, .un, .un]) (by simp)]
      rw [sSeq_go (ρ' := [.val S, .val PL, .own FS, .val W1, .own RW, .own HS, .val (.int (1 + x4)), .val s.d, .val WD, .val (.int (prodC LW)), z10, .un, .un]) (by
        have hev : (srcV (xIxA (xVar 8) (xC (.int 2)))).ev [.val S, .val PL, .own FS, .val W1, .own RW, .own HS, .val (.int (1 + x4)), .val s.d, .val WD, .val (.int 1), .un, .un, .un] = some (LW.map Sn.d, [.val S, .val PL, .own FS, .val W1, .own RW, .own HS, .val (.int (1 + x4)), .val s.d, .val WD, .val (.int 1), .un, .un, .un]) := by simp [WD]
        rw [sFor_ap, hev]
        exact e)]
      have ai := alike_int (if 1 + x4 + 1 < prodC LW then 1 + x4 + 1 else prodC LW)
      simp only [sIf_ap, xNot_ev, xCall_ev, evL_cons, evL_nil, xVar_ev, getR_s, getR_v0, getR_o0, Option.map_some, Option.bind_some, WD, cw, xMin2, x2_ev, sc_ap, xAdd, xC_ev, dAdd_ii, dMin2_ii, ai, dNot_b, Bool.not_true, sNx_ap]
    · refine ⟨.un, .un, .un, .un, ?_⟩
      by_cases c1 : x5 = 1
      · have : L = [] := by by_cases z : L = []; exact z; exact absurd ⟨c1, z⟩ c
        subst this
        simp [HS, PL, plantD, q5, hL, c1]
      · simp [HS, q5, c1]
  obtain ⟨c7, c8, c9, c10, ew⟩ := wide
  rw [sSeq_go ew]
  have rpos : 0 < (rowsOf L).length := by have : (1 : Int) ≤ (rowsOf L).length := by rw [rE]; exact pp
                                          omega
  have g0 := Int.emod_nonneg x1 (show ((rowsOf L).length : Int) ≠ 0 by omega)
  have g1 := Int.emod_lt_of_pos x1 (show 0 < ((rowsOf L).length : Int) by omega)
  obtain ⟨k, hk⟩ : ∃ k : Nat, x1 % ((rowsOf L).length : Int) = k := ⟨(x1 % ((rowsOf L).length : Int)).toNat, by omega⟩
  have hk' : k < (rowsOf L).length := by omega
  have gk : (rowsOf L)[k]? = some (rowsOf L)[k] := List.getElem?_eq_getElem hk'
  have fk := mem_rowsOf.mp (List.getElem_mem hk')
  have mo1 : modOk x1 ((rowsOf L).length : Int) = true := modOk_b (by omega)
  generalize (rowsOf L)[k] = r at gk fk
  rw [sSeq_go (ρ' := [.val S, .val PL, .own FS, .val W1, .own RW, .own HS, .val (.int (1 + x4)), c7, c8, c9, c10, .own (.list r), .un]) (by
    simp [RW, HS, q1, mo1, hk, atI_n, gk])]
  refine change_is (.val S) (.val PL) (.own FS) (.val W1) (.own RW) (.val (.int (1 + x4))) c7 c8 c9 c10 .un hs x0 x2 x3 h0 q2 q3 a2 r (by rw [fk.len]; omega) fk.elem _ _ fun r' hr' er' => ?_
  have z1 := cs r' er' hr'
  have z2 := lsh r' er' hr'
  simp [PL, W1] at z1 z2 ⊢
  simp [z1, z2, alike_bool]
end Wd
set_option maxRecDepth 100000
set_option maxHeartbeats 4000000
namespace Wd
open PySem PySem.Spec L2
def top (i : Nat) : Stmt := PySem.Challenge.pw_wardenworks_k14_readings_of_values.main.body.getD i (.Pass ⟨0, 0, 0, 0⟩)

abbrev s_combined : Stmt := top 1
abbrev N_combined : List Str := ["kind", "left", "right"]
theorem sc_combined : FnScope ["kind", "left", "right"] ["kind", "left", "right"] (defScope s_combined) := ⟨rfl, rfl, rfl, by decide +kernel, rfl, by decide +kernel, by decide +kernel⟩
abbrev s_value_of : Stmt := top 2
abbrev N_value_of : List Str := ["term", "values", "kind"]
theorem sc_value_of : FnScope ["term", "values", "kind"] ["term", "values"] (defScope s_value_of) := ⟨rfl, rfl, rfl, by decide +kernel, rfl, by decide +kernel, by decide +kernel⟩
abbrev s_can_show : Stmt := top 4
abbrev N_can_show : List Str := ["plant", "values", "reading", "k", "sensor"]
theorem sc_can_show : FnScope ["plant", "values", "reading", "k", "sensor"] ["plant", "values", "reading"] (defScope s_can_show) := ⟨rfl, rfl, rfl, by decide +kernel, rfl, by decide +kernel, by decide +kernel⟩
abbrev s_options_of : Stmt := top 5
abbrev N_options_of : List Str := ["sensor", "values", "value", "shown"]
theorem sc_options_of : FnScope ["sensor", "values", "value", "shown"] ["sensor", "values"] (defScope s_options_of) := ⟨rfl, rfl, rfl, by decide +kernel, rfl, by decide +kernel, by decide +kernel⟩
abbrev s_count_readings : Stmt := top 6
abbrev N_count_readings : List Str := ["plant", "values", "most", "many", "sensor"]
theorem sc_count_readings : FnScope ["plant", "values", "most", "many", "sensor"] ["plant", "values", "most"] (defScope s_count_readings) := ⟨rfl, rfl, rfl, by decide +kernel, rfl, by decide +kernel, by decide +kernel⟩
abbrev s_readings_at : Stmt := top 7
abbrev N_readings_at : List Str := ["plant", "values", "rows", "sensor", "options", "row", "shown"]
theorem sc_readings_at : FnScope ["plant", "values", "rows", "sensor", "options", "row", "shown"] ["plant", "values"] (defScope s_readings_at) := ⟨rfl, rfl, rfl, by decide +kernel, rfl, by decide +kernel, by decide +kernel⟩
abbrev s_law_cell : Stmt := top 9
abbrev N_law_cell : List Str := ["script", "k"]
theorem sc_law_cell : FnScope ["script", "k"] ["script", "k"] (defScope s_law_cell) := ⟨rfl, rfl, rfl, by decide +kernel, rfl, by decide +kernel, by decide +kernel⟩
abbrev s_law_draw : Stmt := top 10
abbrev N_law_draw : List Str := ["script", "k", "sizes", "cell", "drawn", "size", "mixed", "j"]
theorem sc_law_draw : FnScope ["script", "k", "sizes", "cell", "drawn", "size", "mixed", "j"] ["script", "k", "sizes"] (defScope s_law_draw) := ⟨rfl, rfl, rfl, by decide +kernel, rfl, by decide +kernel, by decide +kernel⟩
abbrev s_law_term : Stmt := top 11
abbrev N_law_term : List Str := ["digits", "at", "many", "kind", "var", "num"]
theorem sc_law_term : FnScope ["digits", "at", "many", "kind", "var", "num"] ["digits", "at", "many"] (defScope s_law_term) := ⟨rfl, rfl, rfl, by decide +kernel, rfl, by decide +kernel, by decide +kernel⟩
abbrev s_law_condition : Stmt := top 12
abbrev N_law_condition : List Str := ["digits", "at", "many", "kind", "left", "right"]
theorem sc_law_condition : FnScope ["digits", "at", "many", "kind", "left", "right"] ["digits", "at", "many"] (defScope s_law_condition) := ⟨rfl, rfl, rfl, by decide +kernel, rfl, by decide +kernel, by decide +kernel⟩
abbrev s_law_move : Stmt := top 13
abbrev N_law_move : List Str := ["script", "k", "at", "first", "count", "many", "digits", "settings", "j", "low", "high"]
theorem sc_law_move : FnScope ["script", "k", "at", "first", "count", "many", "digits", "settings", "j", "low", "high"] ["script", "k", "at", "first", "count", "many"] (defScope s_law_move) := ⟨rfl, rfl, rfl, by decide +kernel, rfl, by decide +kernel, by decide +kernel⟩
abbrev s_law_sensors : Stmt := top 15
abbrev N_law_sensors : List Str := ["script", "many", "sensors", "head", "j", "digits"]
theorem sc_law_sensors : FnScope ["script", "many", "sensors", "head", "j", "digits"] ["script", "many"] (defScope s_law_sensors) := ⟨rfl, rfl, rfl, by decide +kernel, rfl, by decide +kernel, by decide +kernel⟩
abbrev s_law_plant : Stmt := top 14
abbrev N_law_plant : List Str := ["script", "head", "counts", "many", "variables", "parts", "at", "p", "first", "j", "size", "least", "low", "high", "moves"]
theorem sc_law_plant : FnScope ["script", "head", "counts", "many", "variables", "parts", "at", "p", "first", "j", "size", "least", "low", "high", "moves"] ["script"] (defScope s_law_plant) := ⟨rfl, rfl, rfl, by decide +kernel, rfl, by decide +kernel, by decide +kernel⟩
abbrev s_law_value : Stmt := top 16
abbrev N_law_value : List Str := ["term", "values", "kind", "left", "right"]
theorem sc_law_value : FnScope ["term", "values", "kind", "left", "right"] ["term", "values"] (defScope s_law_value) := ⟨rfl, rfl, rfl, by decide +kernel, rfl, by decide +kernel, by decide +kernel⟩
abbrev s_law_box : Stmt := top 17
abbrev N_law_box : List Str := ["rows", "choices", "out", "row", "choice"]
theorem sc_law_box : FnScope ["rows", "choices", "out", "row", "choice"] ["rows", "choices"] (defScope s_law_box) := ⟨rfl, rfl, rfl, by decide +kernel, rfl, by decide +kernel, by decide +kernel⟩
abbrev s_law_alike : Stmt := top 18
abbrev N_law_alike : List Str := ["actual", "expected", "k"]
theorem sc_law_alike : FnScope ["actual", "expected", "k"] ["actual", "expected"] (defScope s_law_alike) := ⟨rfl, rfl, rfl, by decide +kernel, rfl, by decide +kernel, by decide +kernel⟩
abbrev s_law_shows : Stmt := top 19
abbrev N_law_shows : List Str := ["plant", "values", "reading", "k", "value"]
theorem sc_law_shows : FnScope ["plant", "values", "reading", "k", "value"] ["plant", "values", "reading"] (defScope s_law_shows) := ⟨rfl, rfl, rfl, by decide +kernel, rfl, by decide +kernel, by decide +kernel⟩
abbrev s_law_readings : Stmt := top 20
abbrev N_law_readings : List Str := ["plant", "values", "rows", "sensor", "value", "options"]
theorem sc_law_readings : FnScope ["plant", "values", "rows", "sensor", "value", "options"] ["plant", "values"] (defScope s_law_readings) := ⟨rfl, rfl, rfl, by decide +kernel, rfl, by decide +kernel, by decide +kernel⟩
abbrev s_law : Stmt := top 21
abbrev N_law : List Str := ["script", "plant", "digits", "values", "due", "choice", "most", "first", "wide", "many", "sensor", "reading", "k"]
theorem sc_law : FnScope ["script", "plant", "digits", "values", "due", "choice", "most", "first", "wide", "many", "sensor", "reading", "k"] ["script"] (defScope s_law) := ⟨rfl, rfl, rfl, by decide +kernel, rfl, by decide +kernel, by decide +kernel⟩
section
variable {P : Program} {w : World} {K : PySem.W.Frag} {mg : Str → Option Value} {base : Heap} {f : Addr} {fd : FuncData}
theorem ok_combined (F : Fun K "combined" "combined" s_combined f fd) (z_min : mg "min" = none) (z_max : mg "max" = none) : FnOk P w K mg base CX0 1 f fd ["kind", "left", "right"] (spOf K w 3 f_combined) :=
  fn_ok F sc_combined fun cdv A outer s H E A0 hr =>
  (ss_cons (ss_if (sb_eq hr.units (se_var (i := 0)) se_str)
  (ss_one (ss_ret (se_add (se_var (i := 1)) (se_var (i := 2)))))
  ss_nil)
  (ss_cons (ss_if (sb_eq hr.units (se_var (i := 0)) se_str)
  (ss_one (ss_ret (se_sub (se_var (i := 1)) (se_var (i := 2)))))
  ss_nil)
  (ss_cons (ss_if (sb_eq hr.units (se_var (i := 0)) se_str)
  (ss_one (ss_ret (se_mul (se_var (i := 1)) (se_var (i := 2)))))
  ss_nil)
  (ss_cons (ss_if (sb_eq hr.units (se_var (i := 0)) se_str)
  (ss_one (ss_ret (se_min2 rfl rfl z_min (se_var (i := 1)) (se_var (i := 2)))))
  ss_nil)
  (ss_one (ss_ret (se_max2 rfl rfl z_max (se_var (i := 1)) (se_var (i := 2)))))))))
theorem ok_value_of1 {k : Nat} (F : Fun K "value_of" "value_of" s_value_of f fd) (c_value_of : Cal P w K mg base "value_of" (1 + k) ["term", "values"] (f_value_of k)) (c_combined : Cal P w K mg base "combined" 1 ["kind", "left", "right"] (f_combined)) : FnOk P w K mg base CX0 (1 + k + 1) f fd ["term", "values"] (spOf K w 2 (f_value_of (k + 1))) :=
  fn_ok F sc_value_of fun cdv A outer s H E A0 hr =>
  (ss_cons (ss_asg (i := 2) sc_value_of.nd (se_ixD (hu65 hr) (se_var (i := 0)) se_int))
  (ss_cons (ss_if (sb_eq hr.units (se_var (i := 2)) se_str)
  (ss_one (ss_ret (se_ixD (hu65 hr) (se_var (i := 0)) se_int)))
  ss_nil)
  (ss_cons (ss_if (sb_eq hr.units (se_var (i := 2)) se_str)
  (ss_one (ss_ret (se_ixD (hu65 hr) (se_var (i := 1)) (se_ixD (hu65 hr) (se_var (i := 0)) se_int))))
  ss_nil)
  (ss_cons (ss_if (sb_eq hr.units (se_var (i := 2)) se_str)
  (ss_one (ss_ret (se_neg (se_cal c_value_of hr (by omega) rfl (sa_cons (se_ixD (hu65 hr) (se_var (i := 0)) se_int) (sa_cons (se_var (i := 1)) sa_nil))))))
  ss_nil)
  (ss_one (ss_ret (se_cal c_combined hr (by omega) rfl (sa_cons (se_var (i := 2)) (sa_cons (se_cal c_value_of hr (by omega) rfl (sa_cons (se_ixD (hu65 hr) (se_var (i := 0)) se_int) (sa_cons (se_var (i := 1)) sa_nil))) (sa_cons (se_cal c_value_of hr (by omega) rfl (sa_cons (se_ixD (hu65 hr) (se_var (i := 0)) se_int) (sa_cons (se_var (i := 1)) sa_nil))) sa_nil))))))))))
theorem ok_value_of (F : Fun K "value_of" "value_of" s_value_of f fd) (hm : mg "value_of" = some (.ref f)) (hb : Binds K fd ["term", "values"] []) (c_combined : Cal P w K mg base "combined" 1 ["kind", "left", "right"] (f_combined)) : ∀ k : Nat, FnOk P w K mg base CX0 (1 + k) f fd ["term", "values"] (spOf K w 2 (f_value_of k))
  | 0 => fn_none fun _ => rfl
  | k + 1 => ok_value_of1 F ⟨f, fd, ok_value_of F hm hb c_combined   k, hm, F.kp, hb⟩ c_combined  
theorem ok_can_show (F : Fun K "can_show" "can_show" s_can_show f fd) (c_value_of : Cal P w K mg base "value_of" 5 ["term", "values"] (f_value_of 4)) (z_len : mg "len" = none) (z_range : mg "range" = none) (z_abs : mg "abs" = none) : FnOk P w K mg base CX0 6 f fd ["plant", "values", "reading"] (spOf K w 3 f_can_show) :=
  fn_ok F sc_can_show fun cdv A outer s H E A0 hr =>
  (ss_cons (ss_if (sb_ne hr.units (se_lenA rfl z_len (se_var (i := 2))) (se_lenA rfl z_len (se_ixD (hu65 hr) (se_var (i := 0)) se_int)))
  (ss_one (ss_ret se_bl))
  ss_nil)
  (ss_cons (ss_for PassesOwn.never rfl (si_R1 (fun _ pa => pi_range1 rfl z_range pa) rfl (se_lenA rfl z_len (se_var (i := 2)))) (sg_nameA (i := 3) sc_can_show.nd)
  (ss_cons (ss_asg (i := 4) sc_can_show.nd (se_ixD (hu65 hr) (se_ixD (hu65 hr) (se_var (i := 0)) se_int) (se_var (i := 3))))
  (ss_one (ss_if (sb_is (se_ixD (hu65 hr) (se_var (i := 2)) (se_var (i := 3))) se_non)
  (ss_one (ss_if (sb_not (sb_val (se_ixD (hu65 hr) (se_var (i := 4)) se_int)))
  (ss_one (ss_ret se_bl))
  ss_nil))
  (ss_one (ss_if (sb_gt (se_abs rfl z_abs (se_sub (se_ixD (hu65 hr) (se_var (i := 2)) (se_var (i := 3))) (se_cal c_value_of hr (by omega) rfl (sa_cons (se_ixD (hu65 hr) (se_var (i := 4)) se_int) (sa_cons (se_var (i := 1)) sa_nil))))) (se_ixD (hu65 hr) (se_var (i := 4)) se_int))
  (ss_one (ss_ret se_bl))
  ss_nil))))))
  (ss_one (ss_ret se_bl))))
theorem ok_options_of (F : Fun K "options_of" "options_of" s_options_of f fd) (c_value_of : Cal P w K mg base "value_of" 5 ["term", "values"] (f_value_of 4)) (z_list : mg "list" = none) (z_range : mg "range" = none) : FnOk P w K mg base CX0 6 f fd ["sensor", "values"] (spOf K w 2 f_options_of) :=
  fn_ok F sc_options_of fun cdv A outer s H E A0 hr =>
  (ss_cons (ss_asg (i := 2) sc_options_of.nd (se_cal c_value_of hr (by omega) rfl (sa_cons (se_ixD (hu65 hr) (se_var (i := 0)) se_int) (sa_cons (se_var (i := 1)) sa_nil))))
  (ss_cons (ss_asg (i := 3) sc_options_of.nd (se_lstR2 (fun ta tb pa pb => pe_listRg rfl rfl z_list (prg_2 rfl z_range pa pb)) (se_sub (se_var (i := 2)) (se_ixD (hu65 hr) (se_var (i := 0)) se_int)) (se_add (se_add (se_var (i := 2)) (se_ixD (hu65 hr) (se_var (i := 0)) se_int)) se_int)))
  (ss_cons (ss_if (sb_val (se_ixD (hu65 hr) (se_var (i := 0)) se_int))
  (ss_one (ss_app (i := 3) (fun _ pa => ps_expr (pe_bm PySem.F.plainAttrs_list PySem.F.slot_list_append PySem.F.type_list_append mt_append (pv 3) pa)) rfl se_non))
  ss_nil)
  (ss_one (ss_retVA (i := 3))))))
theorem ok_count_readings (F : Fun K "count_readings" "count_readings" s_count_readings f fd) (z_min : mg "min" = none) (z_int : mg "int" = none) : FnOk P w K mg base CX0 1 f fd ["plant", "values", "most"] (spOf K w 3 f_count_readings) :=
  fn_ok F sc_count_readings fun cdv A outer s H E A0 hr =>
  (ss_cons (ss_asg (i := 3) sc_count_readings.nd se_int)
  (ss_cons (ss_for PassesOwn.never rfl (si_val (se_ixD (hu65 hr) (se_var (i := 0)) se_int)) (sg_nameA (i := 4) sc_count_readings.nd)
  (ss_one (ss_asg (i := 3) sc_count_readings.nd (se_min2 rfl rfl z_min (se_mul (se_var (i := 3)) (se_add (se_add (se_mul se_int (se_ixD (hu65 hr) (se_var (i := 4)) se_int)) se_int) (se_intT rfl z_int (se_ixD (hu65 hr) (se_var (i := 4)) se_int)))) (se_add (se_var (i := 2)) se_int)))))
  (ss_one (ss_retVA (i := 3)))))
theorem ok_readings_at (F : Fun K "readings_at" "readings_at" s_readings_at f fd) (c_options_of : Cal P w K mg base "options_of" 6 ["sensor", "values"] (f_options_of)) : FnOk P w K mg base CX0 7 f fd ["plant", "values"] (spOf K w 2 f_readings_at) :=
  fn_ok F sc_readings_at fun cdv A outer s H E A0 hr =>
  (ss_cons (ss_asg (i := 2) sc_readings_at.nd (se_lst (sa_cons (se_tup sa_nil) sa_nil)))
  (ss_cons (ss_for PassesOwn.never rfl (si_val (se_ixD (hu65 hr) (se_var (i := 0)) se_int)) (sg_nameA (i := 3) sc_readings_at.nd)
  (ss_cons (ss_asg (i := 4) sc_readings_at.nd (se_cal c_options_of hr (by omega) rfl (sa_cons (se_var (i := 3)) (sa_cons (se_var (i := 1)) sa_nil))))
  (ss_one (ss_asgLc2 (i := 2) (g := (gName 5)) (g1 := (gName 6)) (vs1 := [6]) [("row", 5), ("shown", 6)] rfl sc_readings_at.nd (blkOk_by (N := N_readings_at) (sc := defScope s_readings_at) (by decide +kernel)) rfl rfl (sw_true rfl rfl rfl (by decide +kernel)) (si_val (se_var (i := 2))) (fun _ _ _ _ _ => (pg_nameA (i := 5) sc_readings_at.nd)) (fun _ => sgo_name) (fun _ _ _ _ _ _ => spt_nil) (fun _ _ _ _ _ _ => (si_val (se_var (i := 4)))) (fun _ _ _ _ _ => (pg_nameA (i := 6) sc_readings_at.nd)) (fun _ => sgo_name) (fun _ _ _ _ _ _ => spt_nil) (fun _ _ _ _ _ _ => (se_add (se_var (i := 5)) (se_tup (sa_cons (se_var (i := 6)) sa_nil))))))))
  (ss_one (ss_retVA (i := 2)))))
theorem ok_law_cell (F : Fun K "_law_cell" "_law_cell" s_law_cell f fd) (z_len : mg "len" = none) : FnOk P w K mg base CX0 1 f fd ["script", "k"] (spOf K w 2 f_law_cell) :=
  fn_ok F sc_law_cell fun cdv A outer s H E A0 hr =>
  (ss_cons (ss_if (sb_lt (se_var (i := 1)) (se_lenA rfl z_len (se_var (i := 0))))
  (ss_one (ss_ret (se_ixD (hu65 hr) (se_var (i := 0)) (se_var (i := 1)))))
  ss_nil)
  (ss_one (ss_ret se_int)))
theorem ok_law_draw (F : Fun K "_law_draw" "_law_draw" s_law_draw f fd) (c_law_cell : Cal P w K mg base "_law_cell" 1 ["script", "k"] (f_law_cell)) (z_range : mg "range" = none) (z_len : mg "len" = none) : FnOk P w K mg base CX0 2 f fd ["script", "k", "sizes"] (spOf K w 3 f_law_draw) :=
  fn_ok F sc_law_draw fun cdv A outer s H E A0 hr =>
  (ss_cons (ss_asg (i := 3) sc_law_draw.nd (se_cal c_law_cell hr (by omega) rfl (sa_cons (se_var (i := 0)) (sa_cons (se_var (i := 1)) sa_nil))))
  (ss_cons (ss_if (sb_lt (se_var (i := 3)) se_int)
  (ss_one (ss_asg (i := 3) sc_law_draw.nd (se_neg (se_var (i := 3)))))
  ss_nil)
  (ss_cons (ss_asg (i := 4) sc_law_draw.nd (se_lst sa_nil))
  (ss_cons (ss_if (sb_ge (se_var (i := 3)) (se_pow se_int se_int))
  (ss_cons (ss_asg (i := 3) sc_law_draw.nd (se_sub (se_var (i := 3)) (se_pow se_int se_int)))
  (ss_cons (ss_for PassesOwn.never rfl (si_val (se_var (i := 2))) (sg_nameA (i := 5) sc_law_draw.nd)
  (ss_cons (ss_app (i := 4) (fun _ pa => ps_expr (pe_bm PySem.F.plainAttrs_list PySem.F.slot_list_append PySem.F.type_list_append mt_append (pv 4) pa)) rfl (se_mod (se_var (i := 3)) (se_var (i := 5))))
  (ss_one (ss_asg (i := 3) sc_law_draw.nd (se_div (se_var (i := 3)) (se_var (i := 5)))))))
  (ss_one (ss_retVA (i := 4)))))
  ss_nil)
  (ss_cons (ss_asg (i := 6) sc_law_draw.nd (se_mod (se_add (se_add (se_var (i := 3)) se_int) (se_mul se_int (se_var (i := 1)))) se_int))
  (ss_cons (ss_for PassesOwn.never rfl (si_R1 (fun _ pa => pi_range1 rfl z_range pa) rfl (se_lenA rfl z_len (se_var (i := 2)))) (sg_nameA (i := 7) sc_law_draw.nd)
  (ss_cons (ss_asg (i := 6) sc_law_draw.nd (se_mod (se_add (se_add (se_mul (se_var (i := 6)) se_int) se_int) (se_var (i := 7))) se_int))
  (ss_cons (ss_asg (i := 6) sc_law_draw.nd (se_mod (se_add (se_mul (se_var (i := 6)) se_int) se_int) se_int))
  (ss_one (ss_app (i := 4) (fun _ pa => ps_expr (pe_bm PySem.F.plainAttrs_list PySem.F.slot_list_append PySem.F.type_list_append mt_append (pv 4) pa)) rfl (se_mod (se_div (se_var (i := 6)) se_int) (se_ixD (hu65 hr) (se_var (i := 2)) (se_var (i := 7)))))))))
  (ss_one (ss_retVA (i := 4)))))))))
theorem ok_law_term (F : Fun K "_law_term" "_law_term" s_law_term f fd) : FnOk P w K mg base CX0 1 f fd ["digits", "at", "many"] (spOf K w 3 f_law_term) :=
  fn_ok F sc_law_term fun cdv A outer s H E A0 hr =>
  (ss_cons (ss_asg (i := 3) sc_law_term.nd (se_mod (se_ixD (hu65 hr) (se_var (i := 0)) (se_var (i := 1))) se_int))
  (ss_cons (ss_asg (i := 4) sc_law_term.nd (se_tup (sa_cons se_str (sa_cons (se_mod (se_ixD (hu65 hr) (se_var (i := 0)) (se_add (se_var (i := 1)) se_int)) (se_var (i := 2))) sa_nil))))
  (ss_cons (ss_asg (i := 5) sc_law_term.nd (se_tup (sa_cons se_str (sa_cons (se_sub (se_mod (se_ixD (hu65 hr) (se_var (i := 0)) (se_add (se_var (i := 1)) se_int)) se_int) se_int) sa_nil))))
  (ss_cons (ss_if (sb_eq hr.units (se_var (i := 3)) se_int)
  (ss_one (ss_retVA (i := 5)))
  ss_nil)
  (ss_cons (ss_if (sb_eq hr.units (se_var (i := 3)) se_int)
  (ss_one (ss_ret (se_tup (sa_cons se_str (sa_cons (se_var (i := 4)) (sa_cons (se_var (i := 5)) sa_nil))))))
  ss_nil)
  (ss_cons (ss_if (sb_eq hr.units (se_var (i := 3)) se_int)
  (ss_one (ss_ret (se_tup (sa_cons se_str (sa_cons (se_var (i := 5)) (sa_cons (se_var (i := 4)) sa_nil))))))
  ss_nil)
  (ss_cons (ss_if (sb_eq hr.units (se_var (i := 3)) se_int)
  (ss_one (ss_ret (se_tup (sa_cons se_str (sa_cons (se_tup (sa_cons se_str (sa_cons (se_var (i := 4)) (sa_cons (se_tup (sa_cons se_str (sa_cons se_int sa_nil))) sa_nil)))) (sa_cons (se_var (i := 5)) sa_nil))))))
  ss_nil)
  (ss_cons (ss_if (sb_eq hr.units (se_var (i := 3)) se_int)
  (ss_one (ss_ret (se_tup (sa_cons se_str (sa_cons (se_var (i := 4)) (sa_cons (se_var (i := 5)) sa_nil))))))
  ss_nil)
  (ss_cons (ss_if (sb_eq hr.units (se_var (i := 3)) se_int)
  (ss_one (ss_ret (se_tup (sa_cons se_str (sa_cons (se_var (i := 5)) (sa_cons (se_var (i := 4)) sa_nil))))))
  ss_nil)
  (ss_cons (ss_if (sb_eq hr.units (se_var (i := 3)) se_int)
  (ss_one (ss_ret (se_tup (sa_cons se_str (sa_cons (se_tup (sa_cons se_str (sa_cons (se_mod (se_ixD (hu65 hr) (se_var (i := 0)) (se_add (se_var (i := 1)) se_int)) (se_var (i := 2))) sa_nil))) sa_nil)))))
  ss_nil)
  (ss_cons (ss_if (sb_eq hr.units (se_var (i := 3)) se_int)
  (ss_one (ss_ret (se_tup (sa_cons se_str (sa_cons (se_var (i := 4)) (sa_cons (se_tup (sa_cons se_str (sa_cons (se_mod (se_ixD (hu65 hr) (se_var (i := 0)) (se_add (se_var (i := 1)) se_int)) (se_var (i := 2))) sa_nil))) sa_nil))))))
  ss_nil)
  (ss_one (ss_retVA (i := 4))))))))))))))
theorem ok_law_condition (F : Fun K "_law_condition" "_law_condition" s_law_condition f fd) (c_law_term : Cal P w K mg base "_law_term" 1 ["digits", "at", "many"] (f_law_term)) : FnOk P w K mg base CX0 2 f fd ["digits", "at", "many"] (spOf K w 3 f_law_condition) :=
  fn_ok F sc_law_condition fun cdv A outer s H E A0 hr =>
  (ss_cons (ss_asg (i := 3) sc_law_condition.nd (se_mod (se_ixD (hu65 hr) (se_var (i := 0)) (se_var (i := 1))) se_int))
  (ss_cons (ss_asg (i := 4) sc_law_condition.nd (se_tup (sa_cons se_str (sa_cons (se_cal c_law_term hr (by omega) rfl (sa_cons (se_var (i := 0)) (sa_cons (se_add (se_var (i := 1)) se_int) (sa_cons (se_var (i := 2)) sa_nil)))) (sa_cons (se_cal c_law_term hr (by omega) rfl (sa_cons (se_var (i := 0)) (sa_cons (se_add (se_var (i := 1)) se_int) (sa_cons (se_var (i := 2)) sa_nil)))) sa_nil)))))
  (ss_cons (ss_asg (i := 5) sc_law_condition.nd (se_tup (sa_cons se_str (sa_cons (se_tup (sa_cons se_str (sa_cons (se_mod (se_ixD (hu65 hr) (se_var (i := 0)) (se_add (se_var (i := 1)) se_int)) (se_var (i := 2))) sa_nil))) (sa_cons (se_tup (sa_cons se_str (sa_cons (se_sub (se_mod (se_ixD (hu65 hr) (se_var (i := 0)) (se_add (se_var (i := 1)) se_int)) se_int) se_int) sa_nil))) sa_nil)))))
  (ss_cons (ss_if (SW.tob (sw_or (sb_eq hr.units (se_var (i := 3)) se_int) (sw_or1 (sb_eq hr.units (se_var (i := 3)) se_int))))
  (ss_one (ss_ret (se_tup (sa_cons se_str sa_nil))))
  ss_nil)
  (ss_cons (ss_if (sb_eq hr.units (se_var (i := 3)) se_int)
  (ss_one (ss_retVA (i := 4)))
  ss_nil)
  (ss_cons (ss_if (sb_eq hr.units (se_var (i := 3)) se_int)
  (ss_one (ss_retVA (i := 5)))
  ss_nil)
  (ss_cons (ss_if (sb_eq hr.units (se_var (i := 3)) se_int)
  (ss_one (ss_ret (se_tup (sa_cons se_str (sa_cons (se_var (i := 4)) sa_nil)))))
  ss_nil)
  (ss_cons (ss_if (sb_eq hr.units (se_var (i := 3)) se_int)
  (ss_one (ss_ret (se_tup (sa_cons se_str (sa_cons (se_var (i := 4)) (sa_cons (se_var (i := 5)) sa_nil))))))
  ss_nil)
  (ss_one (ss_ret (se_tup (sa_cons se_str (sa_cons (se_tup (sa_cons se_str (sa_cons (se_var (i := 5)) sa_nil))) (sa_cons (se_tup (sa_cons se_str (sa_cons (se_var (i := 4)) (sa_cons (se_tup (sa_cons se_str sa_nil)) sa_nil)))) sa_nil))))))))))))))
theorem ok_law_move (F : Fun K "_law_move" "_law_move" s_law_move f fd) (c_law_draw : Cal P w K mg base "_law_draw" 2 ["script", "k", "sizes"] (f_law_draw)) (c_law_term : Cal P w K mg base "_law_term" 1 ["digits", "at", "many"] (f_law_term)) (c_law_condition : Cal P w K mg base "_law_condition" 2 ["digits", "at", "many"] (f_law_condition)) (z_range : mg "range" = none) (z_str : mg "str" = none) (z_tuple : mg "tuple" = none) : FnOk P w K mg base CX0 3 f fd ["script", "k", "at", "first", "count", "many"] (spOf K w 6 f_law_move) :=
  fn_ok F sc_law_move fun cdv A outer s H E A0 hr =>
  (ss_cons (ss_asg (i := 6) sc_law_move.nd (se_cal c_law_draw hr (by omega) rfl (sa_cons (se_var (i := 0)) (sa_cons (se_var (i := 1)) (sa_cons (se_mul (se_lst (sa_cons se_int sa_nil)) se_int) sa_nil)))))
  (ss_cons (ss_asg (i := 7) sc_law_move.nd (se_lst sa_nil))
  (ss_cons (ss_for PassesOwn.never rfl (si_R1 (fun _ pa => pi_range1 rfl z_range pa) rfl (se_var (i := 4))) (sg_nameA (i := 8) sc_law_move.nd)
  (ss_one (ss_if (sb_ne hr.units (se_mod (se_ixD (hu65 hr) (se_var (i := 6)) (se_add se_int (se_var (i := 8)))) se_int) se_int)
  (ss_cons (ss_asg (i := 9) sc_law_move.nd (se_cal c_law_term hr (by omega) rfl (sa_cons (se_var (i := 6)) (sa_cons (se_add se_int (se_mul se_int (se_var (i := 8)))) (sa_cons (se_var (i := 5)) sa_nil)))))
  (ss_cons (ss_asg (i := 10) sc_law_move.nd (se_var (i := 9)))
  (ss_cons (ss_if (sb_eq hr.units (se_mod (se_ixD (hu65 hr) (se_var (i := 6)) (se_add se_int (se_var (i := 8)))) se_int) se_int)
  (ss_one (ss_asg (i := 10) sc_law_move.nd (se_tup (sa_cons se_str (sa_cons (se_var (i := 9)) (sa_cons (se_tup (sa_cons se_str (sa_cons (se_mod (se_ixD (hu65 hr) (se_var (i := 6)) (se_add se_int (se_mul se_int (se_var (i := 8))))) se_int) sa_nil))) sa_nil))))))
  ss_nil)
  (ss_one (ss_app (i := 7) (fun _ pa => ps_expr (pe_bm PySem.F.plainAttrs_list PySem.F.slot_list_append PySem.F.type_list_append mt_append (pv 7) pa)) rfl (se_tup (sa_cons (se_add (se_var (i := 3)) (se_var (i := 8))) (sa_cons (se_var (i := 9)) (sa_cons (se_var (i := 10)) sa_nil)))))))))
  ss_nil)))
  (ss_cons (ss_if (sb_eq hr.units (se_mod (se_ixD (hu65 hr) (se_var (i := 6)) se_int) se_int) se_int)
  (ss_one (ss_asg (i := 7) sc_law_move.nd (se_rev (se_var (i := 7)))))
  ss_nil)
  (ss_one (ss_ret (se_tup (sa_cons (se_add se_str (se_strI rfl z_str (se_var (i := 2)))) (sa_cons (se_cal c_law_condition hr (by omega) rfl (sa_cons (se_var (i := 6)) (sa_cons se_int (sa_cons (se_var (i := 5)) sa_nil)))) (sa_cons (se_tuple rfl z_tuple (se_var (i := 7))) sa_nil))))))))))
theorem ok_law_sensors (F : Fun K "_law_sensors" "_law_sensors" s_law_sensors f fd) (c_law_draw : Cal P w K mg base "_law_draw" 2 ["script", "k", "sizes"] (f_law_draw)) (c_law_term : Cal P w K mg base "_law_term" 1 ["digits", "at", "many"] (f_law_term)) (z_range : mg "range" = none) (z_str : mg "str" = none) : FnOk P w K mg base CX0 3 f fd ["script", "many"] (spOf K w 2 f_law_sensors) :=
  fn_ok F sc_law_sensors fun cdv A outer s H E A0 hr =>
  (ss_cons (ss_asg (i := 2) sc_law_sensors.nd (se_lst sa_nil))
  (ss_cons (ss_asg (i := 3) sc_law_sensors.nd (se_cal c_law_draw hr (by omega) rfl (sa_cons (se_var (i := 0)) (sa_cons se_int (sa_cons (se_lst (sa_cons se_int sa_nil)) sa_nil)))))
  (ss_cons (ss_for PassesOwn.never rfl (si_R1 (fun _ pa => pi_range1 rfl z_range pa) rfl (se_ixD (hu65 hr) (se_lst (sa_cons se_int (sa_cons se_int (sa_cons se_int (sa_cons se_int sa_nil))))) (se_ixD (hu65 hr) (se_var (i := 3)) se_int))) (sg_nameA (i := 4) sc_law_sensors.nd)
  (ss_cons (ss_asg (i := 5) sc_law_sensors.nd (se_cal c_law_draw hr (by omega) rfl (sa_cons (se_var (i := 0)) (sa_cons (se_add se_int (se_var (i := 4))) (sa_cons (se_lst (sa_cons se_int (sa_cons se_int (sa_cons se_int (sa_cons se_int (sa_cons se_int sa_nil)))))) sa_nil)))))
  (ss_one (ss_app (i := 2) (fun _ pa => ps_expr (pe_bm PySem.F.plainAttrs_list PySem.F.slot_list_append PySem.F.type_list_append mt_append (pv 2) pa)) rfl (se_tup (sa_cons (se_add se_str (se_strI rfl z_str (se_var (i := 4)))) (sa_cons (se_cal c_law_term hr (by omega) rfl (sa_cons (se_var (i := 5)) (sa_cons se_int (sa_cons (se_var (i := 1)) sa_nil)))) (sa_cons (se_ixD (hu65 hr) (se_var (i := 5)) se_int) (sa_cons (se_eq hr.units (se_ixD (hu65 hr) (se_var (i := 5)) se_int) se_int) sa_nil)))))))))
  (ss_one (ss_retVA (i := 2))))))
theorem ok_law_plant (F : Fun K "_law_plant" "_law_plant" s_law_plant f fd) (c_law_draw : Cal P w K mg base "_law_draw" 2 ["script", "k", "sizes"] (f_law_draw)) (c_law_move : Cal P w K mg base "_law_move" 3 ["script", "k", "at", "first", "count", "many"] (f_law_move)) (c_law_sensors : Cal P w K mg base "_law_sensors" 3 ["script", "many"] (f_law_sensors)) (z_max : mg "max" = none) (z_sum : mg "sum" = none) (z_range : mg "range" = none) (z_len : mg "len" = none) (z_str : mg "str" = none) (z_tuple : mg "tuple" = none) : FnOk P w K mg base CX0 4 f fd ["script"] (spOf K w 1 f_law_plant) :=
  fn_ok F sc_law_plant fun cdv A outer s H E A0 hr =>
  (ss_cons (ss_asg (i := 1) sc_law_plant.nd (se_cal c_law_draw hr (by omega) rfl (sa_cons (se_var (i := 0)) (sa_cons se_int (sa_cons (se_lst (sa_cons se_int (sa_cons se_int (sa_cons se_int (sa_cons se_int (sa_cons se_int (sa_cons se_int (sa_cons se_int (sa_cons se_int sa_nil))))))))) sa_nil)))))
  (ss_cons (ss_asg (i := 2) sc_law_plant.nd (se_sl (se_lst (sa_cons (se_add se_int (se_ixD (hu65 hr) (se_var (i := 1)) se_int)) (sa_cons (se_add se_int (se_ixD (hu65 hr) (se_var (i := 1)) se_int)) (sa_cons se_int sa_nil)))) so_none (so_some (se_add se_int (se_max2 rfl rfl z_max se_int (se_sub (se_ixD (hu65 hr) (se_var (i := 1)) se_int) (se_ixD (hu65 hr) (se_var (i := 1)) se_int)))))))
  (ss_cons (ss_asg (i := 3) sc_law_plant.nd (se_sum rfl rfl z_sum (se_var (i := 2))))
  (ss_cons (ss_asg (i := 4) sc_law_plant.nd (se_lst sa_nil))
  (ss_cons (ss_asg (i := 5) sc_law_plant.nd (se_lst sa_nil))
  (ss_cons (ss_asg (i := 6) sc_law_plant.nd se_int)
  (ss_cons (ss_for PassesOwn.never rfl (si_R1 (fun _ pa => pi_range1 rfl z_range pa) rfl (se_lenA rfl z_len (se_var (i := 2)))) (sg_nameA (i := 7) sc_law_plant.nd)
  (ss_cons (ss_asg (i := 8) sc_law_plant.nd (se_lenA rfl z_len (se_var (i := 4))))
  (ss_cons (ss_for PassesOwn.never rfl (si_R1 (fun _ pa => pi_range1 rfl z_range pa) rfl (se_ixD (hu65 hr) (se_var (i := 2)) (se_var (i := 7)))) (sg_nameA (i := 9) sc_law_plant.nd)
  (ss_cons (ss_asg (i := 10) sc_law_plant.nd (se_cal c_law_draw hr (by omega) rfl (sa_cons (se_var (i := 0)) (sa_cons (se_var (i := 6)) (sa_cons (se_lst (sa_cons se_int (sa_cons se_int (sa_cons se_int (sa_cons se_int sa_nil))))) sa_nil)))))
  (ss_cons (ss_asg (i := 11) sc_law_plant.nd (se_sub (se_ixD (hu65 hr) (se_var (i := 10)) se_int) se_int))
  (ss_cons (ss_asg (i := 12) sc_law_plant.nd (se_add (se_var (i := 11)) (se_mod (se_ixD (hu65 hr) (se_var (i := 10)) se_int) (se_add (se_ixD (hu65 hr) (se_var (i := 10)) se_int) se_int))))
  (ss_cons (ss_asg (i := 13) sc_law_plant.nd (se_add (se_var (i := 12)) (se_mod (se_ixD (hu65 hr) (se_var (i := 10)) se_int) (se_add (se_sub (se_add (se_var (i := 11)) (se_ixD (hu65 hr) (se_var (i := 10)) se_int)) (se_var (i := 12))) se_int))))
  (ss_cons (ss_app (i := 4) (fun _ pa => ps_expr (pe_bm PySem.F.plainAttrs_list PySem.F.slot_list_append PySem.F.type_list_append mt_append (pv 4) pa)) rfl (se_tup (sa_cons (se_add (se_add (se_add se_str (se_strI rfl z_str (se_var (i := 7)))) se_str) (se_strI rfl z_str (se_var (i := 9)))) (sa_cons (se_var (i := 11)) (sa_cons (se_add (se_var (i := 11)) (se_ixD (hu65 hr) (se_var (i := 10)) se_int)) (sa_cons (se_var (i := 12)) (sa_cons (se_var (i := 13)) sa_nil)))))))
  (ss_one (ss_asg (i := 6) sc_law_plant.nd (se_add (se_var (i := 6)) se_int)))))))))
  (ss_cons (ss_asg (i := 14) sc_law_plant.nd (se_lst sa_nil))
  (ss_cons (ss_for PassesOwn.never rfl (si_R1 (fun _ pa => pi_range1 rfl z_range pa) rfl (se_add se_int (se_mod (se_ixD (hu65 hr) (se_var (i := 1)) (se_add se_int (se_mod (se_var (i := 7)) se_int))) se_int))) (sg_nameA (i := 9) sc_law_plant.nd)
  (ss_cons (ss_app (i := 14) (fun _ pa => ps_expr (pe_bm PySem.F.plainAttrs_list PySem.F.slot_list_append PySem.F.type_list_append mt_append (pv 14) pa)) rfl (se_cal c_law_move hr (by omega) rfl (sa_cons (se_var (i := 0)) (sa_cons (se_var (i := 6)) (sa_cons (se_var (i := 9)) (sa_cons (se_var (i := 8)) (sa_cons (se_ixD (hu65 hr) (se_var (i := 2)) (se_var (i := 7))) (sa_cons (se_var (i := 3)) sa_nil))))))))
  (ss_one (ss_asg (i := 6) sc_law_plant.nd (se_add (se_var (i := 6)) se_int)))))
  (ss_one (ss_app (i := 5) (fun _ pa => ps_expr (pe_bm PySem.F.plainAttrs_list PySem.F.slot_list_append PySem.F.type_list_append mt_append (pv 5) pa)) rfl (se_tup (sa_cons (se_add se_str (se_strI rfl z_str (se_var (i := 7)))) (sa_cons (se_var (i := 8)) (sa_cons (se_ixD (hu65 hr) (se_var (i := 2)) (se_var (i := 7))) (sa_cons (se_tuple rfl z_tuple (se_var (i := 14))) sa_nil))))))))))))
  (ss_one (ss_ret (se_tup (sa_cons (se_tuple rfl z_tuple (se_var (i := 4))) (sa_cons (se_tuple rfl z_tuple (se_var (i := 5))) (sa_cons (se_tuple rfl z_tuple (se_cal c_law_sensors hr (by omega) rfl (sa_cons (se_var (i := 0)) (sa_cons (se_var (i := 3)) sa_nil)))) sa_nil)))))))))))))
theorem ok_law_value1 {k : Nat} (F : Fun K "_law_value" "_law_value" s_law_value f fd) (c_law_value : Cal P w K mg base "_law_value" (0 + k) ["term", "values"] (f_law_value k)) : FnOk P w K mg base CX0 (0 + k + 1) f fd ["term", "values"] (spOf K w 2 (f_law_value (k + 1))) :=
  fn_ok F sc_law_value fun cdv A outer s H E A0 hr =>
  (ss_cons (ss_asg (i := 2) sc_law_value.nd (se_ixD (hu65 hr) (se_var (i := 0)) se_int))
  (ss_cons (ss_if (sb_eq hr.units (se_var (i := 2)) se_str)
  (ss_one (ss_ret (se_ixD (hu65 hr) (se_var (i := 0)) se_int)))
  ss_nil)
  (ss_cons (ss_if (sb_eq hr.units (se_var (i := 2)) se_str)
  (ss_one (ss_ret (se_ixD (hu65 hr) (se_var (i := 1)) (se_ixD (hu65 hr) (se_var (i := 0)) se_int))))
  ss_nil)
  (ss_cons (ss_if (sb_eq hr.units (se_var (i := 2)) se_str)
  (ss_one (ss_ret (se_sub se_int (se_cal c_law_value hr (by omega) rfl (sa_cons (se_ixD (hu65 hr) (se_var (i := 0)) se_int) (sa_cons (se_var (i := 1)) sa_nil))))))
  ss_nil)
  (ss_cons (ss_asg (i := 3) sc_law_value.nd (se_cal c_law_value hr (by omega) rfl (sa_cons (se_ixD (hu65 hr) (se_var (i := 0)) se_int) (sa_cons (se_var (i := 1)) sa_nil))))
  (ss_cons (ss_asg (i := 4) sc_law_value.nd (se_cal c_law_value hr (by omega) rfl (sa_cons (se_ixD (hu65 hr) (se_var (i := 0)) se_int) (sa_cons (se_var (i := 1)) sa_nil))))
  (ss_cons (ss_if (sb_eq hr.units (se_var (i := 2)) se_str)
  (ss_one (ss_ret (se_add (se_var (i := 3)) (se_var (i := 4)))))
  ss_nil)
  (ss_cons (ss_if (sb_eq hr.units (se_var (i := 2)) se_str)
  (ss_one (ss_ret (se_sub (se_var (i := 3)) (se_var (i := 4)))))
  ss_nil)
  (ss_cons (ss_if (sb_eq hr.units (se_var (i := 2)) se_str)
  (ss_one (ss_ret (se_mul (se_var (i := 3)) (se_var (i := 4)))))
  ss_nil)
  (ss_cons (ss_if (sb_eq hr.units (se_eq hr.units (se_var (i := 2)) se_str) (se_lt (se_var (i := 3)) (se_var (i := 4))))
  (ss_one (ss_retVA (i := 3)))
  ss_nil)
  (ss_one (ss_retVA (i := 4)))))))))))))
theorem ok_law_value (F : Fun K "_law_value" "_law_value" s_law_value f fd) (hm : mg "_law_value" = some (.ref f)) (hb : Binds K fd ["term", "values"] []) : ∀ k : Nat, FnOk P w K mg base CX0 (0 + k) f fd ["term", "values"] (spOf K w 2 (f_law_value k))
  | 0 => fn_none fun _ => rfl
  | k + 1 => ok_law_value1 F ⟨f, fd, ok_law_value F hm hb    k, hm, F.kp, hb⟩   
theorem ok_law_box (F : Fun K "_law_box" "_law_box" s_law_box f fd) : FnOk P w K mg base CX0 1 f fd ["rows", "choices"] (spOf K w 2 f_law_box) :=
  fn_ok F sc_law_box fun cdv A outer s H E A0 hr =>
  (ss_cons (ss_asg (i := 2) sc_law_box.nd (se_lst sa_nil))
  (ss_cons (ss_for PassesOwn.never rfl (si_val (se_var (i := 0))) (sg_nameA (i := 3) sc_law_box.nd)
  (ss_one (ss_for PassesOwn.never rfl (si_val (se_var (i := 1))) (sg_nameA (i := 4) sc_law_box.nd)
  (ss_one (ss_app (i := 2) (fun _ pa => ps_expr (pe_bm PySem.F.plainAttrs_list PySem.F.slot_list_append PySem.F.type_list_append mt_append (pv 2) pa)) rfl (se_add (se_var (i := 3)) (se_tup (sa_cons (se_var (i := 4)) sa_nil))))))))
  (ss_one (ss_retVA (i := 2)))))
theorem ok_law_alike1 {k : Nat} (F : Fun K "_law_alike" "_law_alike" s_law_alike f fd) (c_law_alike : Cal P w K mg base "_law_alike" (0 + k) ["actual", "expected"] (f_law_alike k)) (z_isinstance : mg "isinstance" = none) (z_bool : mg "bool" = none) (z_int : mg "int" = none) (z_str : mg "str" = none) (z_tuple : mg "tuple" = none) (z_list : mg "list" = none) (z_len : mg "len" = none) (z_range : mg "range" = none) : FnOk P w K mg base CX0 (0 + k + 1) f fd ["actual", "expected"] (spOf K w 2 (f_law_alike (k + 1))) :=
  fn_ok F sc_law_alike fun cdv A outer s H E A0 hr =>
  (ss_cons (ss_if (sb_is (se_var (i := 1)) se_non)
  (ss_one (ss_ret (se_is (se_var (i := 0)) se_non)))
  ss_nil)
  (ss_cons (ss_if (sb_val (se_isi rfl z_isinstance rfl z_bool PyProof.Rows.boot_bool (se_var (i := 1))))
  (ss_one (ss_ret (se_and (se_isi rfl z_isinstance rfl z_bool PyProof.Rows.boot_bool (se_var (i := 0))) (se_one (se_eq hr.units (se_var (i := 0)) (se_var (i := 1)))))))
  ss_nil)
  (ss_cons (ss_if (sb_val (se_isi rfl z_isinstance rfl z_int PyProof.Rows.boot_int (se_var (i := 1))))
  (ss_one (ss_ret (se_and (se_isi rfl z_isinstance rfl z_int PyProof.Rows.boot_int (se_var (i := 0))) (se_and (se_not (se_isi rfl z_isinstance rfl z_bool PyProof.Rows.boot_bool (se_var (i := 0)))) (se_one (se_eq hr.units (se_var (i := 0)) (se_var (i := 1))))))))
  ss_nil)
  (ss_cons (ss_if (sb_val (se_isi rfl z_isinstance rfl z_str PyProof.Rows.boot_str (se_var (i := 1))))
  (ss_one (ss_ret (se_and (se_isi rfl z_isinstance rfl z_str PyProof.Rows.boot_str (se_var (i := 0))) (se_one (se_eq hr.units (se_var (i := 0)) (se_var (i := 1)))))))
  ss_nil)
  (ss_cons (ss_if (SW.tob (sw_and (sb_val (se_isi rfl z_isinstance rfl z_tuple PyProof.Rows.boot_tuple (se_var (i := 1)))) (sw_and1 (sb_not (sb_val (se_isi rfl z_isinstance rfl z_tuple PyProof.Rows.boot_tuple (se_var (i := 0))))))))
  (ss_one (ss_ret se_bl))
  ss_nil)
  (ss_cons (ss_if (SW.tob (sw_and (sb_val (se_isi rfl z_isinstance rfl z_list PyProof.Rows.boot_list (se_var (i := 1)))) (sw_and1 (sb_not (sb_val (se_isi rfl z_isinstance rfl z_list PyProof.Rows.boot_list (se_var (i := 0))))))))
  (ss_one (ss_ret se_bl))
  ss_nil)
  (ss_cons (ss_if (sb_ne hr.units (se_lenA rfl z_len (se_var (i := 0))) (se_lenA rfl z_len (se_var (i := 1))))
  (ss_one (ss_ret se_bl))
  ss_nil)
  (ss_cons (ss_for PassesOwn.never rfl (si_R1 (fun _ pa => pi_range1 rfl z_range pa) rfl (se_lenA rfl z_len (se_var (i := 1)))) (sg_nameA (i := 2) sc_law_alike.nd)
  (ss_one (ss_if (sb_not (sb_val (se_cal c_law_alike hr (by omega) rfl (sa_cons (se_ixD (hu65 hr) (se_var (i := 0)) (se_var (i := 2))) (sa_cons (se_ixD (hu65 hr) (se_var (i := 1)) (se_var (i := 2))) sa_nil)))))
  (ss_one (ss_ret se_bl))
  ss_nil)))
  (ss_one (ss_ret se_bl))))))))))
theorem ok_law_alike (F : Fun K "_law_alike" "_law_alike" s_law_alike f fd) (hm : mg "_law_alike" = some (.ref f)) (hb : Binds K fd ["actual", "expected"] []) (z_isinstance : mg "isinstance" = none) (z_bool : mg "bool" = none) (z_int : mg "int" = none) (z_str : mg "str" = none) (z_tuple : mg "tuple" = none) (z_list : mg "list" = none) (z_len : mg "len" = none) (z_range : mg "range" = none) : ∀ k : Nat, FnOk P w K mg base CX0 (0 + k) f fd ["actual", "expected"] (spOf K w 2 (f_law_alike k))
  | 0 => fn_none fun _ => rfl
  | k + 1 => ok_law_alike1 F ⟨f, fd, ok_law_alike F hm hb  z_isinstance z_bool z_int z_str z_tuple z_list z_len z_range  k, hm, F.kp, hb⟩  z_isinstance z_bool z_int z_str z_tuple z_list z_len z_range 
theorem ok_law_shows (F : Fun K "_law_shows" "_law_shows" s_law_shows f fd) (c_law_value : Cal P w K mg base "_law_value" 4 ["term", "values"] (f_law_value 4)) (z_len : mg "len" = none) (z_range : mg "range" = none) : FnOk P w K mg base CX0 5 f fd ["plant", "values", "reading"] (spOf K w 3 f_law_shows) :=
  fn_ok F sc_law_shows fun cdv A outer s H E A0 hr =>
  (ss_cons (ss_if (sb_ne hr.units (se_lenA rfl z_len (se_var (i := 2))) (se_lenA rfl z_len (se_ixD (hu65 hr) (se_var (i := 0)) se_int)))
  (ss_one (ss_ret se_bl))
  ss_nil)
  (ss_cons (ss_for PassesOwn.never rfl (si_R1 (fun _ pa => pi_range1 rfl z_range pa) rfl (se_lenA rfl z_len (se_var (i := 2)))) (sg_nameA (i := 3) sc_law_shows.nd)
  (ss_cons (ss_asg (i := 4) sc_law_shows.nd (se_cal c_law_value hr (by omega) rfl (sa_cons (se_ixD (hu65 hr) (se_ixD (hu65 hr) (se_ixD (hu65 hr) (se_var (i := 0)) se_int) (se_var (i := 3))) se_int) (sa_cons (se_var (i := 1)) sa_nil))))
  (ss_one (ss_if (sb_is (se_ixD (hu65 hr) (se_var (i := 2)) (se_var (i := 3))) se_non)
  (ss_one (ss_if (sb_not (sb_val (se_ixD (hu65 hr) (se_ixD (hu65 hr) (se_ixD (hu65 hr) (se_var (i := 0)) se_int) (se_var (i := 3))) se_int)))
  (ss_one (ss_ret se_bl))
  ss_nil))
  (ss_one (ss_if (SW.tob (sw_or (sb_lt (se_ixD (hu65 hr) (se_var (i := 2)) (se_var (i := 3))) (se_sub (se_var (i := 4)) (se_ixD (hu65 hr) (se_ixD (hu65 hr) (se_ixD (hu65 hr) (se_var (i := 0)) se_int) (se_var (i := 3))) se_int))) (sw_or1 (sb_gt (se_ixD (hu65 hr) (se_var (i := 2)) (se_var (i := 3))) (se_add (se_var (i := 4)) (se_ixD (hu65 hr) (se_ixD (hu65 hr) (se_ixD (hu65 hr) (se_var (i := 0)) se_int) (se_var (i := 3))) se_int))))))
  (ss_one (ss_ret se_bl))
  ss_nil))))))
  (ss_one (ss_ret se_bl))))
theorem ok_law_readings (F : Fun K "_law_readings" "_law_readings" s_law_readings f fd) (c_law_value : Cal P w K mg base "_law_value" 4 ["term", "values"] (f_law_value 4)) (c_law_box : Cal P w K mg base "_law_box" 1 ["rows", "choices"] (f_law_box)) (z_list : mg "list" = none) (z_range : mg "range" = none) : FnOk P w K mg base CX0 5 f fd ["plant", "values"] (spOf K w 2 f_law_readings) :=
  fn_ok F sc_law_readings fun cdv A outer s H E A0 hr =>
  (ss_cons (ss_asg (i := 2) sc_law_readings.nd (se_lst (sa_cons (se_tup sa_nil) sa_nil)))
  (ss_cons (ss_for PassesOwn.never rfl (si_val (se_ixD (hu65 hr) (se_var (i := 0)) se_int)) (sg_nameA (i := 3) sc_law_readings.nd)
  (ss_cons (ss_asg (i := 4) sc_law_readings.nd (se_cal c_law_value hr (by omega) rfl (sa_cons (se_ixD (hu65 hr) (se_var (i := 3)) se_int) (sa_cons (se_var (i := 1)) sa_nil))))
  (ss_cons (ss_asg (i := 5) sc_law_readings.nd (se_lstR2 (fun ta tb pa pb => pe_listRg rfl rfl z_list (prg_2 rfl z_range pa pb)) (se_sub (se_var (i := 4)) (se_ixD (hu65 hr) (se_var (i := 3)) se_int)) (se_add (se_add (se_var (i := 4)) (se_ixD (hu65 hr) (se_var (i := 3)) se_int)) se_int)))
  (ss_cons (ss_if (sb_val (se_ixD (hu65 hr) (se_var (i := 3)) se_int))
  (ss_one (ss_asg (i := 5) sc_law_readings.nd (se_add (se_var (i := 5)) (se_lst (sa_cons se_non sa_nil)))))
  ss_nil)
  (ss_one (ss_asg (i := 2) sc_law_readings.nd (se_cal c_law_box hr (by omega) rfl (sa_cons (se_var (i := 2)) (sa_cons (se_var (i := 5)) sa_nil)))))))))
  (ss_one (ss_retVA (i := 2)))))
theorem ok_law (F : Fun K "law" "law" s_law f fd) (c_law_plant : Cal P w K mg base "_law_plant" 4 ["script"] (f_law_plant)) (c_law_draw : Cal P w K mg base "_law_draw" 2 ["script", "k", "sizes"] (f_law_draw)) (c_law_readings : Cal P w K mg base "_law_readings" 5 ["plant", "values"] (f_law_readings)) (c_law_alike : Cal P w K mg base "_law_alike" 6 ["actual", "expected"] (f_law_alike 6)) (c_readings_at : Cal P w K mg base "readings_at" 7 ["plant", "values"] (f_readings_at)) (c_count_readings : Cal P w K mg base "count_readings" 1 ["plant", "values", "most"] (f_count_readings)) (c_can_show : Cal P w K mg base "can_show" 6 ["plant", "values", "reading"] (f_can_show)) (c_law_shows : Cal P w K mg base "_law_shows" 5 ["plant", "values", "reading"] (f_law_shows)) (z_len : mg "len" = none) (z_tuple : mg "tuple" = none) (z_range : mg "range" = none) (z_min : mg "min" = none) (z_int : mg "int" = none) (z_list : mg "list" = none) : FnOk P w K mg base CX0 8 f fd ["script"] (spOf K w 1 f_law) :=
  fn_ok F sc_law fun cdv A outer s H E A0 hr =>
  (ss_cons (ss_asg (i := 1) sc_law.nd (se_cal c_law_plant hr (by omega) rfl (sa_cons (se_var (i := 0)) sa_nil)))
  (ss_cons (ss_asg (i := 2) sc_law.nd (se_cal c_law_draw hr (by omega) rfl (sa_cons (se_var (i := 0)) (sa_cons se_int (sa_cons (se_mul (se_lst (sa_cons se_int sa_nil)) (se_lenA rfl z_len (se_ixD (hu65 hr) (se_var (i := 1)) se_int))) sa_nil)))))
  (ss_cons (ss_asg (i := 3) sc_law.nd (se_tuple rfl z_tuple (se_lc (g := (gName 12)) [("k", 12)] rfl sc_law.nd (blkOk_by (N := N_law) (sc := defScope s_law) (by decide +kernel)) (si_R1 (fun _ pa => pi_range1 rfl z_range pa) rfl (se_lenA rfl z_len (se_var (i := 2)))) (fun _ _ _ _ _ => (pg_nameA (i := 12) sc_law.nd)) (fun _ => sgo_name) (fun _ _ _ _ _ _ => spt_nil) (fun _ _ _ _ _ _ => (se_add (se_ixD (hu65 hr) (se_ixD (hu65 hr) (se_ixD (hu65 hr) (se_var (i := 1)) se_int) (se_var (i := 12))) se_int) (se_mod (se_ixD (hu65 hr) (se_var (i := 2)) (se_var (i := 12))) (se_add (se_sub (se_ixD (hu65 hr) (se_ixD (hu65 hr) (se_ixD (hu65 hr) (se_var (i := 1)) se_int) (se_var (i := 12))) se_int) (se_ixD (hu65 hr) (se_ixD (hu65 hr) (se_ixD (hu65 hr) (se_var (i := 1)) se_int) (se_var (i := 12))) se_int)) se_int)))))))
  (ss_cons (ss_asg (i := 4) sc_law.nd (se_cal c_law_readings hr (by omega) rfl (sa_cons (se_var (i := 1)) (sa_cons (se_var (i := 3)) sa_nil))))
  (ss_cons (ss_asg (i := 5) sc_law.nd (se_cal c_law_draw hr (by omega) rfl (sa_cons (se_var (i := 0)) (sa_cons se_int (sa_cons (se_lst (sa_cons se_int (sa_cons se_int (sa_cons se_int (sa_cons se_int (sa_cons se_int (sa_cons se_int (sa_cons se_int sa_nil)))))))) sa_nil)))))
  (ss_cons (ss_if (sb_not (sb_val (se_cal c_law_alike hr (by omega) rfl (sa_cons (se_cal c_readings_at hr (by omega) rfl (sa_cons (se_var (i := 1)) (sa_cons (se_var (i := 3)) sa_nil))) (sa_cons (se_var (i := 4)) sa_nil)))))
  (ss_one (ss_ret se_bl))
  ss_nil)
  (ss_cons (ss_asg (i := 6) sc_law.nd (se_add se_int (se_ixD (hu65 hr) (se_var (i := 5)) se_int)))
  (ss_cons (ss_if (sb_not (sb_val (se_cal c_law_alike hr (by omega) rfl (sa_cons (se_cal c_count_readings hr (by omega) rfl (sa_cons (se_var (i := 1)) (sa_cons (se_var (i := 3)) (sa_cons (se_var (i := 6)) sa_nil)))) (sa_cons (se_min2 rfl rfl z_min (se_lenA rfl z_len (se_var (i := 4))) (se_add (se_var (i := 6)) se_int)) sa_nil)))))
  (ss_one (ss_ret se_bl))
  ss_nil)
  (ss_cons (ss_if (SW.tob (sw_and (sb_eq hr.units (se_ixD (hu65 hr) (se_var (i := 5)) se_int) se_int) (sw_and1 (sb_gt (se_lenA rfl z_len (se_ixD (hu65 hr) (se_var (i := 1)) se_int)) se_int))))
  (ss_cons (ss_asg (i := 7) sc_law.nd (se_ixD (hu65 hr) (se_ixD (hu65 hr) (se_var (i := 1)) se_int) se_int))
  (ss_cons (ss_asg (i := 8) sc_law.nd (se_tup (sa_cons (se_ixD (hu65 hr) (se_var (i := 1)) se_int) (sa_cons (se_ixD (hu65 hr) (se_var (i := 1)) se_int) (sa_cons (se_add (se_tup (sa_cons (se_tup (sa_cons (se_ixD (hu65 hr) (se_var (i := 7)) se_int) (sa_cons (se_ixD (hu65 hr) (se_var (i := 7)) se_int) (sa_cons (se_ixD (hu65 hr) (se_var (i := 5)) se_int) (sa_cons (se_ixD (hu65 hr) (se_var (i := 7)) se_int) sa_nil))))) sa_nil)) (se_sl (se_ixD (hu65 hr) (se_var (i := 1)) se_int) (so_some se_int) so_none)) sa_nil)))))
  (ss_cons (ss_asg (i := 9) sc_law.nd se_int)
  (ss_cons (ss_for PassesOwn.never rfl (si_val (se_ixD (hu65 hr) (se_var (i := 8)) se_int)) (sg_nameA (i := 10) sc_law.nd)
  (ss_one (ss_asg (i := 9) sc_law.nd (se_mul (se_var (i := 9)) (se_add (se_add (se_mul se_int (se_ixD (hu65 hr) (se_var (i := 10)) se_int)) se_int) (se_intT rfl z_int (se_ixD (hu65 hr) (se_var (i := 10)) se_int)))))))
  (ss_one (ss_if (sb_not (sb_val (se_cal c_law_alike hr (by omega) rfl (sa_cons (se_cal c_count_readings hr (by omega) rfl (sa_cons (se_var (i := 8)) (sa_cons (se_var (i := 3)) (sa_cons (se_var (i := 6)) sa_nil)))) (sa_cons (se_min2 rfl rfl z_min (se_var (i := 9)) (se_add (se_var (i := 6)) se_int)) sa_nil)))))
  (ss_one (ss_ret se_bl))
  ss_nil))))))
  ss_nil)
  (ss_cons (ss_asg (i := 11) sc_law.nd (se_list rfl z_list (se_ixD (hu65 hr) (se_var (i := 4)) (se_mod (se_ixD (hu65 hr) (se_var (i := 5)) se_int) (se_lenA rfl z_len (se_var (i := 4)))))))
  (ss_cons (ss_if (SW.tob (sw_and (sb_eq hr.units (se_ixD (hu65 hr) (se_var (i := 5)) se_int) se_int) (sw_and1 (sb_gt (se_lenA rfl z_len (se_var (i := 11))) se_int))))
  (ss_one (ss_setG (i := 11) (fun te tk pe pk => ps_asg pe (pg_sub (pv 11) pk (PSet.or set_list (set_dic (hu65 hr))))) (se_sub (se_ixD (hu65 hr) (se_var (i := 5)) se_int) se_int) (se_mod (se_ixD (hu65 hr) (se_var (i := 5)) se_int) (se_lenA rfl z_len (se_var (i := 11))))))
  ss_nil)
  (ss_cons (ss_if (SW.tob (sw_and (sb_eq hr.units (se_ixD (hu65 hr) (se_var (i := 5)) se_int) se_int) (sw_and1 (sb_gt (se_lenA rfl z_len (se_var (i := 11))) se_int))))
  (ss_one (ss_setG (i := 11) (fun te tk pe pk => ps_asg pe (pg_sub (pv 11) pk (PSet.or set_list (set_dic (hu65 hr))))) se_non (se_mod (se_ixD (hu65 hr) (se_var (i := 5)) se_int) (se_lenA rfl z_len (se_var (i := 11))))))
  ss_nil)
  (ss_cons (ss_if (sb_eq hr.units (se_ixD (hu65 hr) (se_var (i := 5)) se_int) se_int)
  (ss_one (ss_app (i := 11) (fun _ pa => ps_expr (pe_bm PySem.F.plainAttrs_list PySem.F.slot_list_append PySem.F.type_list_append mt_append (pv 11) pa)) rfl (se_sub (se_ixD (hu65 hr) (se_var (i := 5)) se_int) se_int)))
  ss_nil)
  (ss_cons (ss_if (SW.tob (sw_and (sb_eq hr.units (se_ixD (hu65 hr) (se_var (i := 5)) se_int) se_int) (sw_and1 (sb_gt (se_lenA rfl z_len (se_var (i := 11))) se_int))))
  (ss_one (ss_pop (i := 11) (ps_expr (pe_bm0 PySem.F.plainAttrs_list PySem.F.slot_list_pop PySem.F.type_list_pop mt_pop (pv 11)))))
  ss_nil)
  (ss_one (ss_ret (se_cal c_law_alike hr (by omega) rfl (sa_cons (se_cal c_can_show hr (by omega) rfl (sa_cons (se_var (i := 1)) (sa_cons (se_var (i := 3)) (sa_cons (se_tuple rfl z_tuple (se_var (i := 11))) sa_nil)))) (sa_cons (se_cal c_law_shows hr (by omega) rfl (sa_cons (se_var (i := 1)) (sa_cons (se_var (i := 3)) (sa_cons (se_var (i := 11)) sa_nil)))) sa_nil)))))))))))))))))))
end
theorem all_mk {l : PySem.W.OpenLaw} {w : World} {K : PySem.W.Frag} {h : Heap} {mg : Str → Option Value} {fa f0 f1 f2 f3 f4 f5 f6 f7 f8 f9 f10 f11 f12 f13 f14 f15 f16 f17 f18 : Addr} (X : K.In h) (G : h.Ns mainGlobals mg) (hfa : mg "law" = some (.ref fa))
    {od0 an0 od1 an1 od2 an2 od3 an3 od4 an4 od5 an5 od6 an6 od7 an7 od8 an8 od9 an9 od10 an10 od11 an11 od12 an12 od13 an13 od14 an14 od15 an15 od16 an16 od17 an17 od18 an18 : Option Addr} {sl0 sl1 sl2 sl3 sl4 sl5 sl6 sl7 sl8 sl9 sl10 sl11 sl12 sl13 sl14 sl15 sl16 sl17 sl18 : Array (Option Value)} {oc0 kV0 dc0 pm0 cd0 ct0 oc1 kV1 dc1 pm1 cd1 ct1 oc2 kV2 dc2 pm2 cd2 ct2 oc3 kV3 dc3 pm3 cd3 ct3 oc4 kV4 dc4 pm4 cd4 ct4 oc5 kV5 dc5 pm5 cd5 ct5 oc6 kV6 dc6 pm6 cd6 ct6 oc7 kV7 dc7 pm7 cd7 ct7 oc8 kV8 dc8 pm8 cd8 ct8 oc9 kV9 dc9 pm9 cd9 ct9 oc10 kV10 dc10 pm10 cd10 ct10 oc11 kV11 dc11 pm11 cd11 ct11 oc12 kV12 dc12 pm12 cd12 ct12 oc13 kV13 dc13 pm13 cd13 ct13 oc14 kV14 dc14 pm14 cd14 ct14 oc15 kV15 dc15 pm15 cd15 ct15 oc16 kV16 dc16 pm16 cd16 ct16 oc17 kV17 dc17 pm17 cd17 ct17 oc18 kV18 dc18 pm18 cd18 ct18 : Value}
    (a0 : PySem.W.nsIn K mainGlobals "combined" = some (some (.ref f0))) (l0 : K.lookup f0 = some ⟨oc0, od0, .func (PySem.W.fnOf "combined" "combined" (defArgs s_combined) (defBody s_combined) (defScope s_combined) .none kV0 dc0 pm0 an0 cd0 ct0), sl0⟩) (c0 : PySem.W.codeIn K cd0 "combined" = true) (k0 : PySem.W.keepIn K (.ref f0) = true)
    (a1 : PySem.W.nsIn K mainGlobals "value_of" = some (some (.ref f1))) (l1 : K.lookup f1 = some ⟨oc1, od1, .func (PySem.W.fnOf "value_of" "value_of" (defArgs s_value_of) (defBody s_value_of) (defScope s_value_of) .none kV1 dc1 pm1 an1 cd1 ct1), sl1⟩) (c1 : PySem.W.codeIn K cd1 "value_of" = true) (k1 : PySem.W.keepIn K (.ref f1) = true)
    (a2 : PySem.W.nsIn K mainGlobals "can_show" = some (some (.ref f2))) (l2 : K.lookup f2 = some ⟨oc2, od2, .func (PySem.W.fnOf "can_show" "can_show" (defArgs s_can_show) (defBody s_can_show) (defScope s_can_show) .none kV2 dc2 pm2 an2 cd2 ct2), sl2⟩) (c2 : PySem.W.codeIn K cd2 "can_show" = true) (k2 : PySem.W.keepIn K (.ref f2) = true)
    (a3 : PySem.W.nsIn K mainGlobals "options_of" = some (some (.ref f3))) (l3 : K.lookup f3 = some ⟨oc3, od3, .func (PySem.W.fnOf "options_of" "options_of" (defArgs s_options_of) (defBody s_options_of) (defScope s_options_of) .none kV3 dc3 pm3 an3 cd3 ct3), sl3⟩) (c3 : PySem.W.codeIn K cd3 "options_of" = true) (k3 : PySem.W.keepIn K (.ref f3) = true)
    (a4 : PySem.W.nsIn K mainGlobals "count_readings" = some (some (.ref f4))) (l4 : K.lookup f4 = some ⟨oc4, od4, .func (PySem.W.fnOf "count_readings" "count_readings" (defArgs s_count_readings) (defBody s_count_readings) (defScope s_count_readings) .none kV4 dc4 pm4 an4 cd4 ct4), sl4⟩) (c4 : PySem.W.codeIn K cd4 "count_readings" = true) (k4 : PySem.W.keepIn K (.ref f4) = true)
    (a5 : PySem.W.nsIn K mainGlobals "readings_at" = some (some (.ref f5))) (l5 : K.lookup f5 = some ⟨oc5, od5, .func (PySem.W.fnOf "readings_at" "readings_at" (defArgs s_readings_at) (defBody s_readings_at) (defScope s_readings_at) .none kV5 dc5 pm5 an5 cd5 ct5), sl5⟩) (c5 : PySem.W.codeIn K cd5 "readings_at" = true) (k5 : PySem.W.keepIn K (.ref f5) = true)
    (a6 : PySem.W.nsIn K mainGlobals "_law_cell" = some (some (.ref f6))) (l6 : K.lookup f6 = some ⟨oc6, od6, .func (PySem.W.fnOf "_law_cell" "_law_cell" (defArgs s_law_cell) (defBody s_law_cell) (defScope s_law_cell) .none kV6 dc6 pm6 an6 cd6 ct6), sl6⟩) (c6 : PySem.W.codeIn K cd6 "_law_cell" = true) (k6 : PySem.W.keepIn K (.ref f6) = true)
    (a7 : PySem.W.nsIn K mainGlobals "_law_draw" = some (some (.ref f7))) (l7 : K.lookup f7 = some ⟨oc7, od7, .func (PySem.W.fnOf "_law_draw" "_law_draw" (defArgs s_law_draw) (defBody s_law_draw) (defScope s_law_draw) .none kV7 dc7 pm7 an7 cd7 ct7), sl7⟩) (c7 : PySem.W.codeIn K cd7 "_law_draw" = true) (k7 : PySem.W.keepIn K (.ref f7) = true)
    (a8 : PySem.W.nsIn K mainGlobals "_law_term" = some (some (.ref f8))) (l8 : K.lookup f8 = some ⟨oc8, od8, .func (PySem.W.fnOf "_law_term" "_law_term" (defArgs s_law_term) (defBody s_law_term) (defScope s_law_term) .none kV8 dc8 pm8 an8 cd8 ct8), sl8⟩) (c8 : PySem.W.codeIn K cd8 "_law_term" = true) (k8 : PySem.W.keepIn K (.ref f8) = true)
    (a9 : PySem.W.nsIn K mainGlobals "_law_condition" = some (some (.ref f9))) (l9 : K.lookup f9 = some ⟨oc9, od9, .func (PySem.W.fnOf "_law_condition" "_law_condition" (defArgs s_law_condition) (defBody s_law_condition) (defScope s_law_condition) .none kV9 dc9 pm9 an9 cd9 ct9), sl9⟩) (c9 : PySem.W.codeIn K cd9 "_law_condition" = true) (k9 : PySem.W.keepIn K (.ref f9) = true)
    (a10 : PySem.W.nsIn K mainGlobals "_law_move" = some (some (.ref f10))) (l10 : K.lookup f10 = some ⟨oc10, od10, .func (PySem.W.fnOf "_law_move" "_law_move" (defArgs s_law_move) (defBody s_law_move) (defScope s_law_move) .none kV10 dc10 pm10 an10 cd10 ct10), sl10⟩) (c10 : PySem.W.codeIn K cd10 "_law_move" = true) (k10 : PySem.W.keepIn K (.ref f10) = true)
    (a11 : PySem.W.nsIn K mainGlobals "_law_sensors" = some (some (.ref f11))) (l11 : K.lookup f11 = some ⟨oc11, od11, .func (PySem.W.fnOf "_law_sensors" "_law_sensors" (defArgs s_law_sensors) (defBody s_law_sensors) (defScope s_law_sensors) .none kV11 dc11 pm11 an11 cd11 ct11), sl11⟩) (c11 : PySem.W.codeIn K cd11 "_law_sensors" = true) (k11 : PySem.W.keepIn K (.ref f11) = true)
    (a12 : PySem.W.nsIn K mainGlobals "_law_plant" = some (some (.ref f12))) (l12 : K.lookup f12 = some ⟨oc12, od12, .func (PySem.W.fnOf "_law_plant" "_law_plant" (defArgs s_law_plant) (defBody s_law_plant) (defScope s_law_plant) .none kV12 dc12 pm12 an12 cd12 ct12), sl12⟩) (c12 : PySem.W.codeIn K cd12 "_law_plant" = true) (k12 : PySem.W.keepIn K (.ref f12) = true)
    (a13 : PySem.W.nsIn K mainGlobals "_law_value" = some (some (.ref f13))) (l13 : K.lookup f13 = some ⟨oc13, od13, .func (PySem.W.fnOf "_law_value" "_law_value" (defArgs s_law_value) (defBody s_law_value) (defScope s_law_value) .none kV13 dc13 pm13 an13 cd13 ct13), sl13⟩) (c13 : PySem.W.codeIn K cd13 "_law_value" = true) (k13 : PySem.W.keepIn K (.ref f13) = true)
    (a14 : PySem.W.nsIn K mainGlobals "_law_box" = some (some (.ref f14))) (l14 : K.lookup f14 = some ⟨oc14, od14, .func (PySem.W.fnOf "_law_box" "_law_box" (defArgs s_law_box) (defBody s_law_box) (defScope s_law_box) .none kV14 dc14 pm14 an14 cd14 ct14), sl14⟩) (c14 : PySem.W.codeIn K cd14 "_law_box" = true) (k14 : PySem.W.keepIn K (.ref f14) = true)
    (a15 : PySem.W.nsIn K mainGlobals "_law_alike" = some (some (.ref f15))) (l15 : K.lookup f15 = some ⟨oc15, od15, .func (PySem.W.fnOf "_law_alike" "_law_alike" (defArgs s_law_alike) (defBody s_law_alike) (defScope s_law_alike) .none kV15 dc15 pm15 an15 cd15 ct15), sl15⟩) (c15 : PySem.W.codeIn K cd15 "_law_alike" = true) (k15 : PySem.W.keepIn K (.ref f15) = true)
    (a16 : PySem.W.nsIn K mainGlobals "_law_shows" = some (some (.ref f16))) (l16 : K.lookup f16 = some ⟨oc16, od16, .func (PySem.W.fnOf "_law_shows" "_law_shows" (defArgs s_law_shows) (defBody s_law_shows) (defScope s_law_shows) .none kV16 dc16 pm16 an16 cd16 ct16), sl16⟩) (c16 : PySem.W.codeIn K cd16 "_law_shows" = true) (k16 : PySem.W.keepIn K (.ref f16) = true)
    (a17 : PySem.W.nsIn K mainGlobals "_law_readings" = some (some (.ref f17))) (l17 : K.lookup f17 = some ⟨oc17, od17, .func (PySem.W.fnOf "_law_readings" "_law_readings" (defArgs s_law_readings) (defBody s_law_readings) (defScope s_law_readings) .none kV17 dc17 pm17 an17 cd17 ct17), sl17⟩) (c17 : PySem.W.codeIn K cd17 "_law_readings" = true) (k17 : PySem.W.keepIn K (.ref f17) = true)
    (a18 : PySem.W.nsIn K mainGlobals "law" = some (some (.ref f18))) (l18 : K.lookup f18 = some ⟨oc18, od18, .func (PySem.W.fnOf "law" "law" (defArgs s_law) (defBody s_law) (defScope s_law) .none kV18 dc18 pm18 an18 cd18 ct18), sl18⟩) (c18 : PySem.W.codeIn K cd18 "law" = true) (k18 : PySem.W.keepIn K (.ref f18) = true)
    (z_min : PySem.W.nsIn K mainGlobals "min" = some none)
    (z_max : PySem.W.nsIn K mainGlobals "max" = some none)
    (z_len : PySem.W.nsIn K mainGlobals "len" = some none)
    (z_range : PySem.W.nsIn K mainGlobals "range" = some none)
    (z_abs : PySem.W.nsIn K mainGlobals "abs" = some none)
    (z_list : PySem.W.nsIn K mainGlobals "list" = some none)
    (z_int : PySem.W.nsIn K mainGlobals "int" = some none)
    (z_str : PySem.W.nsIn K mainGlobals "str" = some none)
    (z_tuple : PySem.W.nsIn K mainGlobals "tuple" = some none)
    (z_sum : PySem.W.nsIn K mainGlobals "sum" = some none)
    (z_isinstance : PySem.W.nsIn K mainGlobals "isinstance" = some none)
    (z_bool : PySem.W.nsIn K mainGlobals "bool" = some none) :
    ∃ fd : FuncData, (∀ (s : Shared) (v : Value), BindsTo s fd ⟨[v], []⟩ [("script", v)]) ∧ ∀ base : Heap, K.In base → base.Ns mainGlobals mg → FnOk l.prog w K mg base CX0 8 fa fd ["script"] (spOf K w 1 f_law) := by
  have e := hfa.symm.trans (PySem.W.mg_of X G a18)
  cases e
  have F0 := fun_mk (st := s_combined) l0 c0 k0
  have b0 := F0.binds (ps := ["kind", "left", "right"]) fun _ _ _ _ _ _ us hl => match us, hl with | [_, _, _], _ => rfl
  have F1 := fun_mk (st := s_value_of) l1 c1 k1
  have b1 := F1.binds (ps := ["term", "values"]) fun _ _ _ _ _ _ us hl => match us, hl with | [_, _], _ => rfl
  have F2 := fun_mk (st := s_can_show) l2 c2 k2
  have b2 := F2.binds (ps := ["plant", "values", "reading"]) fun _ _ _ _ _ _ us hl => match us, hl with | [_, _, _], _ => rfl
  have F3 := fun_mk (st := s_options_of) l3 c3 k3
  have b3 := F3.binds (ps := ["sensor", "values"]) fun _ _ _ _ _ _ us hl => match us, hl with | [_, _], _ => rfl
  have F4 := fun_mk (st := s_count_readings) l4 c4 k4
  have b4 := F4.binds (ps := ["plant", "values", "most"]) fun _ _ _ _ _ _ us hl => match us, hl with | [_, _, _], _ => rfl
  have F5 := fun_mk (st := s_readings_at) l5 c5 k5
  have b5 := F5.binds (ps := ["plant", "values"]) fun _ _ _ _ _ _ us hl => match us, hl with | [_, _], _ => rfl
  have F6 := fun_mk (st := s_law_cell) l6 c6 k6
  have b6 := F6.binds (ps := ["script", "k"]) fun _ _ _ _ _ _ us hl => match us, hl with | [_, _], _ => rfl
  have F7 := fun_mk (st := s_law_draw) l7 c7 k7
  have b7 := F7.binds (ps := ["script", "k", "sizes"]) fun _ _ _ _ _ _ us hl => match us, hl with | [_, _, _], _ => rfl
  have F8 := fun_mk (st := s_law_term) l8 c8 k8
  have b8 := F8.binds (ps := ["digits", "at", "many"]) fun _ _ _ _ _ _ us hl => match us, hl with | [_, _, _], _ => rfl
  have F9 := fun_mk (st := s_law_condition) l9 c9 k9
  have b9 := F9.binds (ps := ["digits", "at", "many"]) fun _ _ _ _ _ _ us hl => match us, hl with | [_, _, _], _ => rfl
  have F10 := fun_mk (st := s_law_move) l10 c10 k10
  have b10 := F10.binds (ps := ["script", "k", "at", "first", "count", "many"]) fun _ _ _ _ _ _ us hl => match us, hl with | [_, _, _, _, _, _], _ => rfl
  have F11 := fun_mk (st := s_law_sensors) l11 c11 k11
  have b11 := F11.binds (ps := ["script", "many"]) fun _ _ _ _ _ _ us hl => match us, hl with | [_, _], _ => rfl
  have F12 := fun_mk (st := s_law_plant) l12 c12 k12
  have b12 := F12.binds (ps := ["script"]) fun _ _ _ _ _ _ us hl => match us, hl with | [_], _ => rfl
  have F13 := fun_mk (st := s_law_value) l13 c13 k13
  have b13 := F13.binds (ps := ["term", "values"]) fun _ _ _ _ _ _ us hl => match us, hl with | [_, _], _ => rfl
  have F14 := fun_mk (st := s_law_box) l14 c14 k14
  have b14 := F14.binds (ps := ["rows", "choices"]) fun _ _ _ _ _ _ us hl => match us, hl with | [_, _], _ => rfl
  have F15 := fun_mk (st := s_law_alike) l15 c15 k15
  have b15 := F15.binds (ps := ["actual", "expected"]) fun _ _ _ _ _ _ us hl => match us, hl with | [_, _], _ => rfl
  have F16 := fun_mk (st := s_law_shows) l16 c16 k16
  have b16 := F16.binds (ps := ["plant", "values", "reading"]) fun _ _ _ _ _ _ us hl => match us, hl with | [_, _, _], _ => rfl
  have F17 := fun_mk (st := s_law_readings) l17 c17 k17
  have b17 := F17.binds (ps := ["plant", "values"]) fun _ _ _ _ _ _ us hl => match us, hl with | [_, _], _ => rfl
  have F18 := fun_mk (st := s_law) l18 c18 k18
  have y_min := PySem.W.mg_none_of X G z_min
  have y_max := PySem.W.mg_none_of X G z_max
  have y_len := PySem.W.mg_none_of X G z_len
  have y_range := PySem.W.mg_none_of X G z_range
  have y_abs := PySem.W.mg_none_of X G z_abs
  have y_list := PySem.W.mg_none_of X G z_list
  have y_int := PySem.W.mg_none_of X G z_int
  have y_str := PySem.W.mg_none_of X G z_str
  have y_tuple := PySem.W.mg_none_of X G z_tuple
  have y_sum := PySem.W.mg_none_of X G z_sum
  have y_isinstance := PySem.W.mg_none_of X G z_isinstance
  have y_bool := PySem.W.mg_none_of X G z_bool
  refine ⟨PySem.W.fnOf "law" "law" (defArgs s_law) (defBody s_law) (defScope s_law) .none kV18 dc18 pm18 an18 cd18 ct18, fun s v => .of_eq rfl, fun base _ _ => ?_⟩
  have C_law_cell : Cal l.prog w K mg base "_law_cell" 1 ["script", "k"] (f_law_cell) := ⟨f6, _, ok_law_cell F6  y_len , PySem.W.mg_of X G a6, k6, b6⟩
  have C_law_draw : Cal l.prog w K mg base "_law_draw" 2 ["script", "k", "sizes"] (f_law_draw) := ⟨f7, _, ok_law_draw F7 C_law_cell y_range y_len , PySem.W.mg_of X G a7, k7, b7⟩
  have C_law_term : Cal l.prog w K mg base "_law_term" 1 ["digits", "at", "many"] (f_law_term) := ⟨f8, _, ok_law_term F8   , PySem.W.mg_of X G a8, k8, b8⟩
  have C_law_condition : Cal l.prog w K mg base "_law_condition" 2 ["digits", "at", "many"] (f_law_condition) := ⟨f9, _, ok_law_condition F9 C_law_term  , PySem.W.mg_of X G a9, k9, b9⟩
  have C_law_move : Cal l.prog w K mg base "_law_move" 3 ["script", "k", "at", "first", "count", "many"] (f_law_move) := ⟨f10, _, ok_law_move F10 C_law_draw C_law_term C_law_condition y_range y_str y_tuple , PySem.W.mg_of X G a10, k10, b10⟩
  have C_law_sensors : Cal l.prog w K mg base "_law_sensors" 3 ["script", "many"] (f_law_sensors) := ⟨f11, _, ok_law_sensors F11 C_law_draw C_law_term y_range y_str , PySem.W.mg_of X G a11, k11, b11⟩
  have C_law_plant : Cal l.prog w K mg base "_law_plant" 4 ["script"] (f_law_plant) := ⟨f12, _, ok_law_plant F12 C_law_draw C_law_move C_law_sensors y_max y_sum y_range y_len y_str y_tuple , PySem.W.mg_of X G a12, k12, b12⟩
  have C_law_value : Cal l.prog w K mg base "_law_value" 4 ["term", "values"] (f_law_value 4) := ⟨f13, _, ok_law_value F13 (PySem.W.mg_of X G a13) b13    4, PySem.W.mg_of X G a13, k13, b13⟩
  have C_law_box : Cal l.prog w K mg base "_law_box" 1 ["rows", "choices"] (f_law_box) := ⟨f14, _, ok_law_box F14   , PySem.W.mg_of X G a14, k14, b14⟩
  have C_law_readings : Cal l.prog w K mg base "_law_readings" 5 ["plant", "values"] (f_law_readings) := ⟨f17, _, ok_law_readings F17 C_law_value C_law_box y_list y_range , PySem.W.mg_of X G a17, k17, b17⟩
  have C_law_alike : Cal l.prog w K mg base "_law_alike" 6 ["actual", "expected"] (f_law_alike 6) := ⟨f15, _, ok_law_alike F15 (PySem.W.mg_of X G a15) b15  y_isinstance y_bool y_int y_str y_tuple y_list y_len y_range  6, PySem.W.mg_of X G a15, k15, b15⟩
  have C_combined : Cal l.prog w K mg base "combined" 1 ["kind", "left", "right"] (f_combined) := ⟨f0, _, ok_combined F0  y_min y_max , PySem.W.mg_of X G a0, k0, b0⟩
  have C_value_of : Cal l.prog w K mg base "value_of" 5 ["term", "values"] (f_value_of 4) := ⟨f1, _, ok_value_of F1 (PySem.W.mg_of X G a1) b1 C_combined   4, PySem.W.mg_of X G a1, k1, b1⟩
  have C_options_of : Cal l.prog w K mg base "options_of" 6 ["sensor", "values"] (f_options_of) := ⟨f3, _, ok_options_of F3 C_value_of y_list y_range , PySem.W.mg_of X G a3, k3, b3⟩
  have C_readings_at : Cal l.prog w K mg base "readings_at" 7 ["plant", "values"] (f_readings_at) := ⟨f5, _, ok_readings_at F5 C_options_of  , PySem.W.mg_of X G a5, k5, b5⟩
  have C_count_readings : Cal l.prog w K mg base "count_readings" 1 ["plant", "values", "most"] (f_count_readings) := ⟨f4, _, ok_count_readings F4  y_min y_int , PySem.W.mg_of X G a4, k4, b4⟩
  have C_can_show : Cal l.prog w K mg base "can_show" 6 ["plant", "values", "reading"] (f_can_show) := ⟨f2, _, ok_can_show F2 C_value_of y_len y_range y_abs , PySem.W.mg_of X G a2, k2, b2⟩
  have C_law_shows : Cal l.prog w K mg base "_law_shows" 5 ["plant", "values", "reading"] (f_law_shows) := ⟨f16, _, ok_law_shows F16 C_law_value y_len y_range , PySem.W.mg_of X G a16, k16, b16⟩
  exact ok_law F18 C_law_plant C_law_draw C_law_readings C_law_alike C_readings_at C_count_readings C_can_show C_law_shows y_len y_tuple y_range y_min y_int y_list 
end Wd
set_option maxRecDepth 100000
set_option maxHeartbeats 4000000
open PySem PySem.W PyProof.Rows
set_option maxRecDepth 100000 in
set_option maxHeartbeats 0 in
theorem PySem.Challenge.cw_wardenworks_k14_readings_of_values_holds : PySem.Challenge.rw_wardenworks_k14_readings_of_values.Holds := by
  w_on; o_law; k_head; (case hw => w_witness2)
  k_fill
  refine Wd.walk (l := PySem.Challenge.rw_wardenworks_k14_readings_of_values) (k := 8) (f := Wd.f_law) Wd.law_true rfl rfl ⟨rfl, by decide, by decide⟩ (fun w h Y => PySem.W.kIn_of Y) ?F
  case F =>
    intro w mg fa h KX G hmg
    refine' Wd.all_mk KX G hmg ?a0 ?l0 ?c0 ?k0 ?a1 ?l1 ?c1 ?k1 ?a2 ?l2 ?c2 ?k2 ?a3 ?l3 ?c3 ?k3 ?a4 ?l4 ?c4 ?k4 ?a5 ?l5 ?c5 ?k5 ?a6 ?l6 ?c6 ?k6 ?a7 ?l7 ?c7 ?k7 ?a8 ?l8 ?c8 ?k8 ?a9 ?l9 ?c9 ?k9 ?a10 ?l10 ?c10 ?k10 ?a11 ?l11 ?c11 ?k11 ?a12 ?l12 ?c12 ?k12 ?a13 ?l13 ?c13 ?k13 ?a14 ?l14 ?c14 ?k14 ?a15 ?l15 ?c15 ?k15 ?a16 ?l16 ?c16 ?k16 ?a17 ?l17 ?c17 ?k17 ?a18 ?l18 ?c18 ?k18 ?z_min ?z_max ?z_len ?z_range ?z_abs ?z_list ?z_int ?z_str ?z_tuple ?z_sum ?z_isinstance ?z_bool
    (case a0 => k_is)
    (case l0 => k_is)
    (case c0 => k_is)
    (case k0 => k_is)
    (case a1 => k_is)
    (case l1 => k_is)
    (case c1 => k_is)
    (case k1 => k_is)
    (case a2 => k_is)
    (case l2 => k_is)
    (case c2 => k_is)
    (case k2 => k_is)
    (case a3 => k_is)
    (case l3 => k_is)
    (case c3 => k_is)
    (case k3 => k_is)
    (case a4 => k_is)
    (case l4 => k_is)
    (case c4 => k_is)
    (case k4 => k_is)
    (case a5 => k_is)
    (case l5 => k_is)
    (case c5 => k_is)
    (case k5 => k_is)
    (case a6 => k_is)
    (case l6 => k_is)
    (case c6 => k_is)
    (case k6 => k_is)
    (case a7 => k_is)
    (case l7 => k_is)
    (case c7 => k_is)
    (case k7 => k_is)
    (case a8 => k_is)
    (case l8 => k_is)
    (case c8 => k_is)
    (case k8 => k_is)
    (case a9 => k_is)
    (case l9 => k_is)
    (case c9 => k_is)
    (case k9 => k_is)
    (case a10 => k_is)
    (case l10 => k_is)
    (case c10 => k_is)
    (case k10 => k_is)
    (case a11 => k_is)
    (case l11 => k_is)
    (case c11 => k_is)
    (case k11 => k_is)
    (case a12 => k_is)
    (case l12 => k_is)
    (case c12 => k_is)
    (case k12 => k_is)
    (case a13 => k_is)
    (case l13 => k_is)
    (case c13 => k_is)
    (case k13 => k_is)
    (case a14 => k_is)
    (case l14 => k_is)
    (case c14 => k_is)
    (case k14 => k_is)
    (case a15 => k_is)
    (case l15 => k_is)
    (case c15 => k_is)
    (case k15 => k_is)
    (case a16 => k_is)
    (case l16 => k_is)
    (case c16 => k_is)
    (case k16 => k_is)
    (case a17 => k_is)
    (case l17 => k_is)
    (case c17 => k_is)
    (case k17 => k_is)
    (case a18 => k_is)
    (case l18 => k_is)
    (case c18 => k_is)
    (case k18 => k_is)
    (case z_min => k_is)
    (case z_max => k_is)
    (case z_len => k_is)
    (case z_range => k_is)
    (case z_abs => k_is)
    (case z_list => k_is)
    (case z_int => k_is)
    (case z_str => k_is)
    (case z_tuple => k_is)
    (case z_sum => k_is)
    (case z_isinstance => k_is)
    (case z_bool => k_is)
