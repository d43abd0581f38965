import PyProof.Rows.All
import Wide.All
import OpenK.AllK
import Wide.FinOn
import HandS.ForMost
import HandS.ForExc
import HandS.Walk
import HandS.Wide
import HandS.CallSlots
import PySem.Challenge.RW_linkscale_k53_splits_counted
set_option Elab.async false
set_option linter.all false
set_option autoImplicit false
set_option maxRecDepth 100000
set_option maxHeartbeats 4000000
namespace Aw
open PySem PySem.Spec PyProof.Rows L2

/-- data as trees; obj: an object told by its address alone -/
inductive D where
  | non | bl (b : Bool) | int (i : Int) | str (x : Str) | obj (a : Addr) | ty (n : String)
  | lst (ds : List D) | tup (ds : List D) | ins (C : Addr) (fs : List (Str × D))
  | dK (kvs : List (Key × D)) | dT (kvs : List (List Key × D))
  | rl (ds : List D) | rt (ds : List D)

mutual
inductive Rep (K : PySem.W.Frag) (G : Hp) : V → D → Prop
  | non : Rep K G .non .non
  | bl (b : Bool) : Rep K G (.bl b) (.bl b)
  | int (i : Int) : Rep K G (.int i) (.int i)
  | str (x : Str) : Rep K G (.str x) (.str x)
  | obj (a : Addr) : Rep K G (.ref a) (.obj a)
  | ty (n : String) : Rep K G (.ty n) (.ty n)
  | lst {a : Addr} {vs : List V} {ds : List D} : G a = some (.lst vs) → RepAll K G vs ds → Rep K G (.ref a) (.lst ds)
  | tup {a : Addr} {vs : List V} {ds : List D} : G a = some (.tup vs) → RepAll K G vs ds → Rep K G (.ref a) (.tup ds)
  | rl {a : Addr} {vs : List V} {ds : List D} : SqL K G a vs → RepAll K G vs ds → Rep K G (.ref a) (.rl ds)
  | rt {a : Addr} {vs : List V} {ds : List D} : SqT K G a vs → RepAll K G vs ds → Rep K G (.ref a) (.rt ds)
  | ins {a C dx : Addr} {fs' : List (Str × V)} {fs : List (Str × D)} : G a = some (.ins C dx fs') → RepKV K G Str fs' fs → Rep K G (.ref a) (.ins C fs)
  | dK {a : Addr} {kvs' : List (Key × V)} {kvs : List (Key × D)} : Rd G a (.dK kvs') → RepKV K G Key kvs' kvs → Rep K G (.ref a) (.dK kvs)
  | dT {a : Addr} {kvs' : List (List Key × V)} {kvs : List (List Key × D)} : Rd G a (.dT kvs') → RepKV K G (List Key) kvs' kvs → Rep K G (.ref a) (.dT kvs)
inductive RepAll (K : PySem.W.Frag) (G : Hp) : List V → List D → Prop
  | nil : RepAll K G [] []
  | cons {v : V} {vs : List V} {d : D} {ds : List D} : Rep K G v d → RepAll K G vs ds → RepAll K G (v :: vs) (d :: ds)
inductive RepKV (K : PySem.W.Frag) (G : Hp) : (α : Type) → List (α × V) → List (α × D) → Prop
  | nil {α : Type} : RepKV K G α [] []
  | cons {α : Type} {k : α} {v : V} {vs : List (α × V)} {d : D} {ds : List (α × D)} : Rep K G v d → RepKV K G α vs ds → RepKV K G α ((k, v) :: vs) ((k, d) :: ds)
end

section
variable {K : PySem.W.Frag} {G G' : Hp}
theorem rd_mono {a : Addr} {u : HO} (e : Same G G') (h : Rd G a u) : Rd G' a u := by
  rcases h with h | ⟨o, h⟩
  · exact .inl (e _ _ h)
  · exact .inr ⟨o, e _ _ h⟩
theorem sqL_mono {a : Addr} {xs : List V} (e : Same G G') (h : SqL K G a xs) : SqL K G' a xs := by
  rcases h with h | h
  · exact .inl (rd_mono e h)
  · exact .inr h
theorem sqT_mono {a : Addr} {xs : List V} (e : Same G G') (h : SqT K G a xs) : SqT K G' a xs := by
  rcases h with h | h
  · exact .inl (rd_mono e h)
  · exact .inr h
mutual
theorem Rep.mono (e : Same G G') : ∀ {v : V} {d : D}, Rep K G v d → Rep K G' v d
  | _, _, .non => .non
  | _, _, .bl b => .bl b
  | _, _, .int i => .int i
  | _, _, .str x => .str x
  | _, _, .obj a => .obj a
  | _, _, .ty n => .ty n
  | _, _, .lst h r => .lst (e _ _ h) (RepAll.mono e r)
  | _, _, .tup h r => .tup (e _ _ h) (RepAll.mono e r)
  | _, _, .rl h r => .rl (sqL_mono e h) (RepAll.mono e r)
  | _, _, .rt h r => .rt (sqT_mono e h) (RepAll.mono e r)
  | _, _, .ins h r => .ins (e _ _ h) (RepKV.mono e r)
  | _, _, .dK h r => .dK (rd_mono e h) (RepKV.mono e r)
  | _, _, .dT h r => .dT (rd_mono e h) (RepKV.mono e r)
theorem RepAll.mono (e : Same G G') : ∀ {vs : List V} {ds : List D}, RepAll K G vs ds → RepAll K G' vs ds
  | _, _, .nil => .nil
  | _, _, .cons h r => .cons (Rep.mono e h) (RepAll.mono e r)
theorem RepKV.mono (e : Same G G') : ∀ {α : Type} {vs : List (α × V)} {ds : List (α × D)}, RepKV K G α vs ds → RepKV K G' α vs ds
  | _, _, _, .nil => .nil
  | _, _, _, .cons h r => .cons (Rep.mono e h) (RepKV.mono e r)
end
theorem RepAll.length : ∀ {vs : List V} {ds : List D}, RepAll K G vs ds → vs.length = ds.length
  | _, _, .nil => rfl
  | _, _, .cons _ r => by simp [RepAll.length r]
theorem RepAll.get : ∀ {vs : List V} {ds : List D} {i : Nat} {d : D}, RepAll K G vs ds → ds[i]? = some d → ∃ v, vs[i]? = some v ∧ Rep K G v d
  | _, _, _, _, .nil, e => by simp at e
  | _, _, 0, _, .cons h _, e => by simp at e; subst e; exact ⟨_, rfl, h⟩
  | _, _, i + 1, _, .cons _ r, e => by
    obtain ⟨v, h1, h2⟩ := RepAll.get (i := i) r (by simpa using e)
    exact ⟨v, by simpa using h1, h2⟩
theorem RepAll.getV : ∀ {vs : List V} {ds : List D} {i : Nat} {v : V}, RepAll K G vs ds → vs[i]? = some v → ∃ d, ds[i]? = some d ∧ Rep K G v d
  | _, _, _, _, .nil, e => by simp at e
  | _, _, 0, _, .cons h _, e => by simp at e; subst e; exact ⟨_, rfl, h⟩
  | _, _, i + 1, _, .cons _ r, e => by
    obtain ⟨v, h1, h2⟩ := RepAll.getV (i := i) r (by simpa using e)
    exact ⟨v, by simpa using h1, h2⟩
theorem RepAll.append : ∀ {vs ws : List V} {ds es : List D}, RepAll K G vs ds → RepAll K G ws es → RepAll K G (vs ++ ws) (ds ++ es)
  | _, _, _, _, .nil, s => s
  | _, _, _, _, .cons h r, s => .cons h (RepAll.append r s)
theorem RepAll.set {v : V} {d : D} (h : Rep K G v d) : ∀ {vs : List V} {ds : List D} (i : Nat), RepAll K G vs ds → RepAll K G (vs.set i v) (ds.set i d)
  | _, _, _, .nil => .nil
  | _, _, 0, .cons _ r => .cons h r
  | _, _, i + 1, .cons q r => .cons q (RepAll.set h i r)
theorem RepAll.take : ∀ {vs : List V} {ds : List D} (n : Nat), RepAll K G vs ds → RepAll K G (vs.take n) (ds.take n)
  | _, _, 0, _ => by simp; exact .nil
  | _, _, n + 1, .nil => .nil
  | _, _, n + 1, .cons h r => .cons h (RepAll.take n r)
theorem RepAll.drop : ∀ {vs : List V} {ds : List D} (n : Nat), RepAll K G vs ds → RepAll K G (vs.drop n) (ds.drop n)
  | _, _, 0, r => r
  | _, _, n + 1, .nil => .nil
  | _, _, n + 1, .cons h r => RepAll.drop n r
theorem RepKV.lookup {α : Type} [BEq α] : ∀ {vs : List (α × V)} {ds : List (α × D)} {f : α} {d : D}, RepKV K G α vs ds → ds.lookup f = some d → ∃ v, vs.lookup f = some v ∧ Rep K G v d
  | _, _, f, d, .nil, e => by simp at e
  | _, _, f, d, .cons (k := k) h r, e => by
    rw [List.lookup_cons] at e ⊢
    cases q : (f == k) with
    | true => rw [q] at e; cases e; exact ⟨_, rfl, h⟩
    | false => rw [q] at e; exact RepKV.lookup r e
theorem RepKV.lookup_none {α : Type} [BEq α] : ∀ {vs : List (α × V)} {ds : List (α × D)} {f : α}, RepKV K G α vs ds → ds.lookup f = none → vs.lookup f = none
  | _, _, f, .nil, e => rfl
  | _, _, f, .cons (k := k) h r, e => by
    rw [List.lookup_cons] at e ⊢
    cases q : (f == k) with
    | true => rw [q] at e; cases e
    | false => rw [q] at e; exact RepKV.lookup_none r e
theorem RepKV.length {α : Type} : ∀ {vs : List (α × V)} {ds : List (α × D)}, RepKV K G α vs ds → vs.length = ds.length
  | _, _, .nil => rfl
  | _, _, .cons _ r => by simp [RepKV.length r]
end

/-- what may change, by its address -/
inductive MO where
  | lst (ds : List D) | dK (kvs : List (Key × D)) | dT (kvs : List (List Key × D)) | ins (C : Addr) (fs : List (Str × D))
inductive RepO (K : PySem.W.Frag) (G : Hp) : HO → MO → Prop
  | lst {vs : List V} {ds : List D} : RepAll K G vs ds → RepO K G (.lst vs) (.lst ds)
  | dK {kvs' : List (Key × V)} {kvs : List (Key × D)} : RepKV K G Key kvs' kvs → RepO K G (.dK kvs') (.dK kvs)
  | dT {kvs' : List (List Key × V)} {kvs : List (List Key × D)} : RepKV K G (List Key) kvs' kvs → RepO K G (.dT kvs') (.dT kvs)
  | ins {C dx : Addr} {fs' : List (Str × V)} {fs : List (Str × D)} : RepKV K G Str fs' fs → RepO K G (.ins C dx fs') (.ins C fs)
theorem RepO.mono {K : PySem.W.Frag} {G G' : Hp} {h : HO} {o : MO} (e : Same G G') (r : RepO K G h o) : RepO K G' h o := by
  cases r with
  | lst r => exact .lst (r.mono e)
  | dK r => exact .dK (r.mono e)
  | dT r => exact .dT (r.mono e)
  | ins r => exact .ins (r.mono e)

abbrev Mm := Addr → Option MO
def mset (M : Mm) (a : Addr) (o : Option MO) : Mm := fun b => if b = a then o else M b
theorem mset_same {M : Mm} {a : Addr} {o : Option MO} : mset M a o a = o := by unfold mset; rw [if_pos rfl]
theorem mset_ne {M : Mm} {a b : Addr} {o : Option MO} (h : b ≠ a) : mset M a o b = M b := by unfold mset; rw [if_neg h]
theorem mset_mset {M : Mm} {a : Addr} {o u : Option MO} : mset (mset M a o) a u = mset M a u := by funext b; unfold mset; split <;> rfl
theorem mset_self {M : Mm} {a : Addr} {o : Option MO} (h : M a = o) : mset M a o = M := by
  funext b; unfold mset; split
  · rename_i e; rw [e, h]
  · rfl
theorem mne_of {M : Mm} {a b : Addr} {o u : MO} (h : M a = some o) (h' : M b = some u) (d : o ≠ u) : a ≠ b := by
  intro e; subst e; rw [h] at h'; exact d (Option.some.inj h')
theorem mne_none {M : Mm} {a b : Addr} {o : MO} (h : M a = some o) (h' : M b = none) : a ≠ b := by
  intro e; subst e; rw [h] at h'; cases h'

structure Ok (K : PySem.W.Frag) (G : Hp) (M : Mm) (H : Hp) : Prop where
  ex : Same G H
  mu : ∀ p o, M p = some o → G p = none ∧ ∃ h, H p = some h ∧ RepO K G h o
theorem same_new {G : Hp} {p : Addr} {o : HO} (h : G p = none) : Same G (upd G p o) := fun b u e => by
  rw [upd_ne (ne_of_none e h)]; exact e
section
variable {K : PySem.W.Frag} {G G' H : Hp} {M : Mm} {p : Addr}
theorem Ok.free (k : Ok K G M H) (h : H p = none) : G p = none ∧ M p = none := by
  refine ⟨k.ex.free h, ?_⟩
  cases e : M p with
  | none => rfl
  | some o =>
    obtain ⟨_, _, q, _⟩ := k.mu p o e
    rw [h] at q; cases q
/-- a new object that stays as it is -/
theorem Ok.laid {o : HO} (k : Ok K G M H) (h : H p = none) : Ok K (upd G p o) M (upd H p o) := by
  obtain ⟨g, m⟩ := k.free h
  refine ⟨fun b u e => ?_, fun b u e => ?_⟩
  · by_cases hb : b = p
    · subst hb; rw [upd_same] at e ⊢; exact e
    · rw [upd_ne hb] at e ⊢; exact k.ex b u e
  · obtain ⟨g1, w, h1, r⟩ := k.mu b u e
    have hb : b ≠ p := fun z => by subst z; rw [m] at e; cases e
    exact ⟨by rw [upd_ne hb]; exact g1, w, by rw [upd_ne hb]; exact h1, r.mono (same_new g)⟩
/-- a new object that may change -/
theorem Ok.laidM {o : HO} {u : MO} (k : Ok K G M H) (h : H p = none) (r : RepO K G o u) : Ok K G (mset M p (some u)) (upd H p o) := by
  obtain ⟨g, m⟩ := k.free h
  refine ⟨fun b u e => ?_, fun b u e => ?_⟩
  · rw [upd_ne (ne_of_none e g)]; exact k.ex b u e
  · by_cases hb : b = p
    · subst hb; rw [mset_same] at e; cases e
      exact ⟨g, o, upd_same, r⟩
    · rw [mset_ne hb] at e
      obtain ⟨g1, w, h1, r⟩ := k.mu b u e
      exact ⟨g1, w, by rw [upd_ne hb]; exact h1, r⟩
/-- what may change is changed -/
theorem Ok.write {o : HO} {u u' : MO} (k : Ok K G M H) (h : M p = some u) (r : RepO K G o u') : Ok K G (mset M p (some u')) (upd H p o) := by
  obtain ⟨g, _⟩ := k.mu p u h
  refine ⟨fun b v e => ?_, fun b v e => ?_⟩
  · rw [upd_ne (ne_of_none e g)]; exact k.ex b v e
  · by_cases hb : b = p
    · subst hb; rw [mset_same] at e; cases e
      exact ⟨g, o, upd_same, r⟩
    · rw [mset_ne hb] at e
      obtain ⟨g1, w, h1, r⟩ := k.mu b v e
      exact ⟨g1, w, by rw [upd_ne hb]; exact h1, r⟩
/-- from now on it stays as it is -/
theorem Ok.freeze {o : HO} (k : Ok K G M H) (h : H p = some o) (g : G p = none) : Ok K (upd G p o) (mset M p none) H := by
  refine ⟨fun b v e => ?_, fun b v e => ?_⟩
  · by_cases hb : b = p
    · subst hb; rw [upd_same] at e; rw [h]; exact e
    · rw [upd_ne hb] at e; exact k.ex b v e
  · by_cases hb : b = p
    · subst hb; rw [mset_same] at e; cases e
    · rw [mset_ne hb] at e
      obtain ⟨g1, w, h1, r⟩ := k.mu b v e
      exact ⟨by rw [upd_ne hb]; exact g1, w, h1, r.mono (same_new g)⟩
/-- forgotten -/
theorem Ok.forget (k : Ok K G M H) : Ok K G (mset M p none) H := by
  refine ⟨k.ex, fun b v e => ?_⟩
  by_cases hb : b = p
  · subst hb; rw [mset_same] at e; cases e
  · rw [mset_ne hb] at e; exact k.mu b v e
end

abbrev Dl := List (Option D)
structure Sl (K : PySem.W.Frag) (G : Hp) (σ : L2.St) (δ : Dl) : Prop where
  len : σ.length = δ.length
  get : ∀ (i : Nat) (d : D), δ[i]? = some (some d) → ∃ v, σ[i]? = some (some v) ∧ Rep K G v d
section
variable {K : PySem.W.Frag} {G G' H : Hp} {σ : L2.St} {δ : Dl}
theorem Sl.mono (e : Same G G') (s : Sl K G σ δ) : Sl K G' σ δ := ⟨s.len, fun i d h => by
  obtain ⟨v, h1, h2⟩ := s.get i d h
  exact ⟨v, h1, h2.mono e⟩⟩
theorem Sl.set {i : Nat} {v : V} {d : D} (s : Sl K G σ δ) (r : Rep K G v d) : Sl K G (σ.set i (some v)) (δ.set i (some d)) := by
  refine ⟨by simp [s.len], fun j e h => ?_⟩
  by_cases hj : i = j
  · subst hj
    rw [List.getElem?_set] at h
    simp only [if_true] at h
    split at h
    · rename_i hl
      cases h
      exact ⟨v, by rw [List.getElem?_set]; simp [s.len, hl], r⟩
    · cases h
  · rw [List.getElem?_set_ne hj] at h
    obtain ⟨w, h1, h2⟩ := s.get j e h
    exact ⟨w, by rw [List.getElem?_set_ne hj]; exact h1, h2⟩
theorem Sl.none {i : Nat} {w : Option V} (s : Sl K G σ δ) : Sl K G (σ.set i w) (δ.set i none) := by
  refine ⟨by simp [s.len], fun j e h => ?_⟩
  by_cases hj : i = j
  · subst hj
    rw [List.getElem?_set] at h
    simp only [if_true] at h
    split at h <;> cases h
  · rw [List.getElem?_set_ne hj] at h
    obtain ⟨w, h1, h2⟩ := s.get j e h
    exact ⟨w, by rw [List.getElem?_set_ne hj]; exact h1, h2⟩
/-- a slot's value is forgotten, or told otherwise -/
theorem Sl.weak {δ' : Dl} (s : Sl K G σ δ) (hl : δ'.length = δ.length) (h : ∀ (i : Nat) (d : D), δ'[i]? = some (some d) → δ[i]? = some (some d)) : Sl K G σ δ' := ⟨s.len.trans hl.symm, fun i d q => s.get i d (h i d q)⟩
end
def wipeD (δ : Dl) : List Nat → Dl
  | [] => δ
  | v :: vs => (wipeD δ vs).set v none
theorem Sl.wipe {K : PySem.W.Frag} {G : Hp} {σ : L2.St} {δ : Dl} (s : Sl K G σ δ) : ∀ vs : List Nat, Sl K G (L2.wipe σ vs) (wipeD δ vs)
  | [] => s
  | v :: vs => (Sl.wipe s vs).none

/-! ### the judgements -/
def ET (K : PySem.W.Frag) (G0 : Hp) (t : TE) (δ : Dl) (M : Mm) (Q : D → Mm → Prop) : Prop :=
  ∀ σ G H, Same G0 G → Sl K G σ δ → Ok K G M H → ∀ R : VK, (∀ d M' v G' H', Q d M' → Same G G' → Ok K G' M' H' → Rep K G' v d → R v H') → t σ H R
def TTe (K : PySem.W.Frag) (G0 : Hp) (t : TT) (δ : Dl) (M : Mm) (Q : Bool → Mm → Prop) : Prop :=
  ∀ σ G H, Same G0 G → Sl K G σ δ → Ok K G M H → ∀ R : Bool → Hp → Prop, (∀ b M' G' H', Q b M' → Same G G' → Ok K G' M' H' → R b H') → t σ H R
def AT (K : PySem.W.Frag) (G0 : Hp) (t : TA) (δ : Dl) (M : Mm) (Q : List D → Mm → Prop) : Prop :=
  ∀ σ G H, Same G0 G → Sl K G σ δ → Ok K G M H → ∀ R : List V → Hp → Prop, (∀ ds M' vs G' H', Q ds M' → Same G G' → Ok K G' M' H' → RepAll K G' vs ds → R vs H') → t σ H R
structure En where
  nx : Dl → Mm → Prop
  rt : D → Mm → Prop
  bk : Dl → Mm → Prop := fun _ _ => False
  ct : Dl → Mm → Prop := fun _ _ => False
def STe (K : PySem.W.Frag) (G0 : Hp) (t : TS) (δ : Dl) (M : Mm) (E : En) : Prop :=
  ∀ σ G H, Same G0 G → Sl K G σ δ → Ok K G M H → ∀ D' : Ends,
    (∀ δ' M' σ' G' H', E.nx δ' M' → Same G G' → Sl K G' σ' δ' → Ok K G' M' H' → D'.nx σ' H') →
    (∀ d M' v G' H', E.rt d M' → Same G G' → Ok K G' M' H' → Rep K G' v d → D'.rt v H') →
    (∀ δ' M' σ' G' H', E.bk δ' M' → Same G G' → Sl K G' σ' δ' → Ok K G' M' H' → D'.bk σ' H') →
    (∀ δ' M' σ' G' H', E.ct δ' M' → Same G G' → Sl K G' σ' δ' → Ok K G' M' H' → D'.ct σ' H') → t D' σ H

def tE (X : Cx) (e : Expr) : TE := fun σ H R => ∀ pins s, Inv X pins σ H s → wpAny (model X.prog X.w) X.A (eval e X.env) (EP X pins σ R) X.xe s
def tT (X : Cx) (e : Expr) : TT := fun σ H R => ∀ pins s, Inv X pins σ H s → wpAny (model X.prog X.w) X.A (isTrue e X.env (eval e X.env)) (TP X pins σ R) X.xe s
def tW (X : Cx) (e : Expr) : TT := fun σ H R => ∀ whole pins s, Inv X pins σ H s → wpAny (model X.prog X.w) X.A (isTrue e X.env whole) (TP X pins σ R) X.xe s
def tA (X : Cx) (es : List Expr) : TA := fun σ H R => ∀ pos pins s, Inv X pins σ H s → wpAny (model X.prog X.w) X.A (spliced (backTo pos (starEach es X.env))) (AP X pins σ R) X.xe s
def tS (X : Cx) (st : Stmt) : TS := fun D σ H => ∀ pins s, Inv X pins σ H s → wpAny (model X.prog X.w) X.A (exec st X.env) (SP X pins D) X.xe s
def tSs (X : Cx) (st : List Stmt) : TS := fun D σ H => ∀ pins s, Inv X pins σ H s → wpAny (model X.prog X.w) X.A (execs st X.env) (SP X pins D) X.xe s
section
variable {X : Cx} {G0 : Hp}
theorem peS {e : Expr} : PE X e (tE X e) := ⟨fun pins s σ H Q I h => h pins s I⟩
theorem ptS {e : Expr} : PT X e (tT X e) := ⟨fun pins s σ H Q I h => h pins s I⟩
theorem pwS {e : Expr} : PW X e (tW X e) := ⟨fun wh pins s σ H Q I h => h wh pins s I⟩
theorem paS {e : List Expr} : PA X e (tA X e) := ⟨fun pos pins s σ H Q I h => h pos pins s I⟩
theorem psS {e : Stmt} : PS X e (tS X e) := ⟨fun pins s σ H Q I h => h pins s I⟩
theorem pssS {e : List Stmt} : PSs X e (tSs X e) := ⟨fun pins s σ H Q I h => h pins s I⟩
def EW (X : Cx) (G0 : Hp) (e : Expr) (δ : Dl) (M : Mm) (Q : D → Mm → Prop) : Prop := ET X.K G0 (tE X e) δ M Q
def TW (X : Cx) (G0 : Hp) (e : Expr) (δ : Dl) (M : Mm) (Q : Bool → Mm → Prop) : Prop := TTe X.K G0 (tT X e) δ M Q
def WW (X : Cx) (G0 : Hp) (e : Expr) (δ : Dl) (M : Mm) (Q : Bool → Mm → Prop) : Prop := TTe X.K G0 (tW X e) δ M Q
def AW (X : Cx) (G0 : Hp) (e : List Expr) (δ : Dl) (M : Mm) (Q : List D → Mm → Prop) : Prop := AT X.K G0 (tA X e) δ M Q
def SW (X : Cx) (G0 : Hp) (e : Stmt) (δ : Dl) (M : Mm) (E : En) : Prop := STe X.K G0 (tS X e) δ M E
def SWs (X : Cx) (G0 : Hp) (e : List Stmt) (δ : Dl) (M : Mm) (E : En) : Prop := STe X.K G0 (tSs X e) δ M E
variable {δ : Dl} {M : Mm} {e a b : Expr} {es : List Expr} {Q : D → Mm → Prop} {QB : Bool → Mm → Prop} {QA : List D → Mm → Prop} {E : En} {pos : Pos}
theorem EW.of {t : TE} (h : PE X e t) (q : ET X.K G0 t δ M Q) : EW X G0 e δ M Q := fun σ G H e0 sl ok R k pins s I => h.run pins s σ H R I (q σ G H e0 sl ok R k)
theorem TW.of {t : TT} (h : PT X e t) (q : TTe X.K G0 t δ M QB) : TW X G0 e δ M QB := fun σ G H e0 sl ok R k pins s I => h.run pins s σ H R I (q σ G H e0 sl ok R k)
theorem WW.of {t : TT} (h : PW X e t) (q : TTe X.K G0 t δ M QB) : WW X G0 e δ M QB := fun σ G H e0 sl ok R k wh pins s I => h.run wh pins s σ H R I (q σ G H e0 sl ok R k)
theorem AW.of {t : TA} (h : PA X es t) (q : AT X.K G0 t δ M QA) : AW X G0 es δ M QA := fun σ G H e0 sl ok R k ps pins s I => h.run ps pins s σ H R I (q σ G H e0 sl ok R k)
theorem SW.of {st : Stmt} {t : TS} (h : PS X st t) (q : STe X.K G0 t δ M E) : SW X G0 st δ M E := fun σ G H e0 sl ok R k1 k2 k3 k4 pins s I => h.run pins s σ H R I (q σ G H e0 sl ok R k1 k2 k3 k4)
theorem SWs.of {st : List Stmt} {t : TS} (h : PSs X st t) (q : STe X.K G0 t δ M E) : SWs X G0 st δ M E := fun σ G H e0 sl ok R k1 k2 k3 k4 pins s I => h.run pins s σ H R I (q σ G H e0 sl ok R k1 k2 k3 k4)
theorem EW.mono {Q' : D → Mm → Prop} (h : EW X G0 e δ M Q) (k : ∀ d M', Q d M' → Q' d M') : EW X G0 e δ M Q' := fun σ G H e0 sl ok R r => h σ G H e0 sl ok R fun d M' v G' H' q => r d M' v G' H' (k d M' q)
theorem SWs.mono {st : List Stmt} {E' : En} (h : SWs X G0 st δ M E) (k1 : ∀ d M', E.nx d M' → E'.nx d M') (k2 : ∀ d M', E.rt d M' → E'.rt d M') (k3 : ∀ d M', E.bk d M' → E'.bk d M') (k4 : ∀ d M', E.ct d M' → E'.ct d M') : SWs X G0 st δ M E' := fun σ G H e0 sl ok R r1 r2 r3 r4 => h σ G H e0 sl ok R (fun d M' v G' H' q => r1 d M' v G' H' (k1 d M' q)) (fun d M' v G' H' q => r2 d M' v G' H' (k2 d M' q)) (fun d M' v G' H' q => r3 d M' v G' H' (k3 d M' q)) (fun d M' v G' H' q => r4 d M' v G' H' (k4 d M' q))

/-! ### names, constants -/
theorem ew_name (i : Nat) {x : Str} {d : D} (hd : δ[i]? = some (some d)) (h : Q d M) (hN : X.N[i]? = some x := by rfl) (hv : Vis X.env.scope x := by first | exact Or.inl rfl | exact Or.inr (Or.inl rfl) | exact Or.inr (Or.inr rfl))
    (hdb : (x == ("__debug__" : Str)) = false := by decide) (hcd : (x == ("__classdict__" : Str)) = false := by decide) : EW X G0 (.Name x pos) δ M Q := by
  refine EW.of (pe_var hN hv hdb hcd) fun σ G H e0 sl ok R k => ?_
  obtain ⟨v, h1, h2⟩ := sl.get i d hd
  exact ⟨v, h1, k d M v G H h (Same.refl _) ok h2⟩
theorem et_c {v : V} {d : D} (r : ∀ G, Rep X.K G v d) (h : Q d M) : ET X.K G0 (tC v) δ M Q := fun σ G H e0 sl ok R k => k d M v G H h (Same.refl _) ok (r G)
theorem ew_int {i j} (h : Q (.int i) M) : EW X G0 (.Constant (.int i) j pos) δ M Q := EW.of pe_int (et_c (fun _ => .int i) h)
theorem ew_bl {i j} (h : Q (.bl i) M) : EW X G0 (.Constant (.bool i) j pos) δ M Q := EW.of pe_bl (et_c (fun _ => .bl i) h)
theorem ew_str {i j} (h : Q (.str i) M) : EW X G0 (.Constant (.str i) j pos) δ M Q := EW.of pe_str (et_c (fun _ => .str i) h)
theorem ew_non {j} (h : Q .non M) : EW X G0 (.Constant .none j pos) δ M Q := EW.of pe_non (et_c (fun _ => .non) h)
theorem ew_glob {x : Str} {v : V} {u : Value} {d : D} (hm : X.mg x = some u) (r : RelV v u) (rp : ∀ G, Rep X.K G v d) (h : Q d M) (hg : Gl X x := by rfl) (hd : (x == ("__debug__" : Str)) = false := by decide) : EW X G0 (.Name x pos) δ M Q :=
  EW.of (pe_glob hg hm r hd) (et_c rp h)

/-! ### operators -/
def R2A (K : PySem.W.Frag) (r : R2) (d1 d2 : D) (M : Mm) (Q : D → Mm → Prop) : Prop :=
  ∀ G H v1 v2, Ok K G M H → Rep K G v1 d1 → Rep K G v2 d2 → ∀ R : VK, (∀ d M' v G' H', Q d M' → Same G G' → Ok K G' M' H' → Rep K G' v d → R v H') → r v1 v2 H R
theorem et_op {K : PySem.W.Frag} {r : R2} {ta tb : TE} (h : ET K G0 ta δ M fun d1 M1 => ET K G0 tb δ M1 fun d2 M2 => R2A K r d1 d2 M2 Q) : ET K G0 (tOp r ta tb) δ M Q := fun σ G H e0 sl ok R k =>
  h σ G H e0 sl ok _ fun d1 M1 v1 G1 H1 h1 e1 ok1 r1 => h1 σ G1 H1 (e0.trans e1) (sl.mono e1) ok1 _ fun d2 M2 v2 G2 H2 h2 e2 ok2 r2 =>
    h2 G2 H2 v1 v2 ok2 (r1.mono e2) r2 R fun d M' v G' H' q e3 => k d M' v G' H' q (e1.trans (e2.trans e3))
theorem ew_op {op : Operator} {r : R2} (ho : OpR X (binaryOp op) r) (h : EW X G0 a δ M fun d1 M1 => EW X G0 b δ M1 fun d2 M2 => R2A X.K r d1 d2 M2 Q) : EW X G0 (.BinOp a op b pos) δ M Q := EW.of (pe_op ho peS peS) (et_op h)
theorem ew_cmp {op : CmpOp} {r : R2} (ho : OpR X (compareOp op) r) (hm : behindInMarks op b = false) (h : EW X G0 a δ M fun d1 M1 => EW X G0 b δ M1 fun d2 M2 => R2A X.K r d1 d2 M2 Q) : EW X G0 (.Compare a [op] [b] pos) δ M Q := EW.of (pe_cmpR ho peS peS hm) (et_op h)
theorem ew_ix {r : R2} (ho : IxR X r) (hs : PlainIx b) (h : EW X G0 a δ M fun d1 M1 => EW X G0 b δ M1 fun d2 M2 => R2A X.K r d1 d2 M2 Q) : EW X G0 (.Subscript a b pos) δ M Q := EW.of (pe_ix ho peS peS hs) (et_op h)
section
variable {K : PySem.W.Frag} {i j : Int}
theorem rr_I0i {g : Int → Int → Int} (h : Q (.int (g i j)) M) : R2A K (rI0 fun i j => .int (g i j)) (.int i) (.int j) M Q := fun G H v1 v2 ok r1 r2 R k => by
  cases r1; cases r2
  exact ⟨i, j, rfl, rfl, k _ _ _ _ _ h (Same.refl _) ok (.int _)⟩
theorem rr_I0b {g : Int → Int → Bool} (h : Q (.bl (g i j)) M) : R2A K (rI0 fun i j => .bl (g i j)) (.int i) (.int j) M Q := fun G H v1 v2 ok r1 r2 R k => by
  cases r1; cases r2
  exact ⟨i, j, rfl, rfl, k _ _ _ _ _ h (Same.refl _) ok (.bl _)⟩
theorem rr_Ii {C : Int → Int → Prop} {g : Int → Int → Int} (hc : C i j) (h : Q (.int (g i j)) M) : R2A K (rI C fun i j => .int (g i j)) (.int i) (.int j) M Q := fun G H v1 v2 ok r1 r2 R k => by
  cases r1; cases r2
  exact ⟨i, j, rfl, rfl, hc, k _ _ _ _ _ h (Same.refl _) ok (.int _)⟩
/-- == and != of plain values -/
def scalD : D → D → Bool
  | .non, .non => true | .non, .int _ => true | .int _, .non => true | .non, .bl _ => true | .bl _, .non => true | .non, .str _ => true | .str _, .non => true
  | .int _, .int _ => true | .bl _, .bl _ => true | .str _, .str _ => true
  | _, _ => false
def eqSc : D → D → Bool
  | .non, .non => true
  | .int i, .int j => decide (i = j)
  | .bl i, .bl j => decide (i = j)
  | .str i, .str j => decide (i = j)
  | _, _ => false
theorem rr_eq {d e : D} (hs : scalD d e = true) (h : Q (.bl (eqSc d e)) M) : R2A K rEq d e M Q := fun G H v1 v2 ok r1 r2 R k => by
  have z : ∀ b, b = eqSc d e → R (.bl b) H := fun b q => by rw [q]; exact k _ _ _ _ _ h (Same.refl _) ok (.bl _)
  cases r1 <;> cases r2 <;> first | exact ⟨rfl, z _ (by first | rfl | simp [eqSc])⟩ | (simp [scalD] at hs)
theorem rr_ne {d e : D} (hs : scalD d e = true) (h : Q (.bl (!eqSc d e)) M) : R2A K rNe d e M Q := fun G H v1 v2 ok r1 r2 R k => by
  have z : ∀ b, b = (!eqSc d e) → R (.bl b) H := fun b q => by rw [q]; exact k _ _ _ _ _ h (Same.refl _) ok (.bl _)
  cases r1 <;> cases r2 <;> first | exact ⟨rfl, z _ (by first | rfl | simp [eqSc])⟩ | (simp [scalD] at hs)
/-- an item of a list, a tuple, a text -/
theorem atI_all {K : PySem.W.Frag} {G : Hp} {vs : List V} {ds : List D} {i : Int} {d : D} (r : RepAll K G vs ds) (h : atI ds i = some d) : ∃ v, atI vs i = some v ∧ Rep K G v d := by
  unfold atI at h ⊢
  rw [r.length]
  cases q : ixN ds.length i with
  | none => rw [q] at h; cases h
  | some n => rw [q] at h; exact r.get h
theorem rr_ixL {ds : List D} {d : D} (ha : atI ds i = some d) (h : Q d M) : R2A K (rIx K) (.lst ds) (.int i) M Q := fun G H v1 v2 ok r1 r2 R k => by
  cases r2
  cases r1 with
  | lst s r =>
    obtain ⟨v, h1, h2⟩ := atI_all r ha
    exact .inl ⟨_, _, i, v, rfl, rfl, SqL.of (ok.ex _ _ s), h1, k _ _ _ _ _ h (Same.refl _) ok h2⟩
theorem rr_ixRL {ds : List D} {d : D} (ha : atI ds i = some d) (h : Q d M) : R2A K (rIx K) (.rl ds) (.int i) M Q := fun G H v1 v2 ok r1 r2 R k => by
  cases r2
  cases r1 with
  | rl s r =>
    obtain ⟨v, h1, h2⟩ := atI_all r ha
    exact .inl ⟨_, _, i, v, rfl, rfl, sqL_mono ok.ex s, h1, k _ _ _ _ _ h (Same.refl _) ok h2⟩
theorem rr_ixRT {ds : List D} {d : D} (ha : atI ds i = some d) (h : Q d M) : R2A K (rIx K) (.rt ds) (.int i) M Q := fun G H v1 v2 ok r1 r2 R k => by
  cases r2
  cases r1 with
  | rt s r =>
    obtain ⟨v, h1, h2⟩ := atI_all r ha
    exact .inr (.inl ⟨_, _, i, v, rfl, rfl, sqT_mono ok.ex s, h1, k _ _ _ _ _ h (Same.refl _) ok h2⟩)
theorem rr_ixM {ds : List D} {d : D} {p : Addr} (hp : M p = some (.lst ds)) (ha : atI ds i = some d) (h : Q d M) : R2A K (rIx K) (.obj p) (.int i) M Q := fun G H v1 v2 ok r1 r2 R k => by
  cases r2
  cases r1
  obtain ⟨g, o, ho, ro⟩ := ok.mu p _ hp
  cases ro with
  | lst r =>
    obtain ⟨v, h1, h2⟩ := atI_all r ha
    exact .inl ⟨_, _, i, v, rfl, rfl, SqL.of ho, h1, k _ _ _ _ _ h (Same.refl _) ok h2⟩
theorem rr_ixT {ds : List D} {d : D} (ha : atI ds i = some d) (h : Q d M) : R2A K (rIx K) (.tup ds) (.int i) M Q := fun G H v1 v2 ok r1 r2 R k => by
  cases r2
  cases r1 with
  | tup s r =>
    obtain ⟨v, h1, h2⟩ := atI_all r ha
    exact .inr (.inl ⟨_, _, i, v, rfl, rfl, SqT.of (ok.ex _ _ s), h1, k _ _ _ _ _ h (Same.refl _) ok h2⟩)
theorem rr_ixS {z : Str} {c : Nat} (hz : z.length ≤ sizeLine) (ha : atI z.cps.toList i = some c) (h : Q (.str ⟨#[c]⟩) M) : R2A K (rIx K) (.str z) (.int i) M Q := fun G H v1 v2 ok r1 r2 R k => by
  cases r2
  cases r1
  exact .inr (.inr ⟨_, i, c, rfl, rfl, hz, ha, k _ _ _ _ _ h (Same.refl _) ok (.str _)⟩)
end
end
end Aw
namespace Aw
open PySem PySem.Spec PyProof.Rows L2
section
variable {X : Cx} {G0 : Hp} {δ : Dl} {M : Mm} {e a b c : Expr} {es : List Expr} {Q : D → Mm → Prop} {QB : Bool → Mm → Prop} {QA : List D → Mm → Prop} {E : En} {pos : Pos}

/-! ### tests -/
theorem tte_test {K : PySem.W.Frag} {t : TE} (h : ET K G0 t δ M fun d M' => ∃ b, d = .bl b ∧ QB b M') : TTe K G0 (tTest t) δ M QB := fun σ G H e0 sl ok R k =>
  h σ G H e0 sl ok _ fun d M1 v1 G1 H1 h1 e1 ok1 r1 => by
    obtain ⟨b, rfl, q⟩ := h1
    cases r1
    exact ⟨b, rfl, k b M1 G1 H1 q e1 ok1⟩
/-- a comparison as a test -/
theorem tw_cmp {op : CmpOp} {r : R2} (ho : OpR X (compareOp op) r) (hm : behindInMarks op b = false) (h : EW X G0 a δ M fun d1 M1 => EW X G0 b δ M1 fun d2 M2 => R2A X.K r d1 d2 M2 fun d M3 => ∃ b, d = .bl b ∧ QB b M3) : TW X G0 (.Compare a [op] [b] pos) δ M QB :=
  TW.of (pt_cmpR ho peS peS hm) (tte_test (et_op h))
theorem tw_val (h : EW X G0 e δ M fun d M' => ∃ b, d = .bl b ∧ QB b M') (he : ∀ whole, isTrue e X.env whole = (do let v ← whole; standAt e.pos; holding [v] (truthy v)) := by intro _; rfl) : TW X G0 e δ M QB :=
  TW.of (pt_val peS he) (fun σ G H e0 sl ok R k => h σ G H e0 sl ok _ fun d M1 v1 G1 H1 h1 e1 ok1 r1 => by
    obtain ⟨b, rfl, q⟩ := h1
    cases r1
    exact ⟨b, rfl, k b M1 G1 H1 q e1 ok1⟩)
theorem tw_not (h : TW X G0 a δ M fun b M' => QB (!b) M') : TW X G0 (.UnaryOp .Not a pos) δ M QB :=
  TW.of (pt_not ptS) (fun σ G H e0 sl ok R k => h σ G H e0 sl ok _ fun b M1 G1 H1 h1 e1 ok1 => k _ M1 G1 H1 h1 e1 ok1)
theorem tw_ww (h : WW X G0 a δ M QB) : TW X G0 a δ M QB := TW.of (PW.pt pwS) h
theorem ww_and1 (h : TW X G0 a δ M QB) : WW X G0 (.BoolOp .And [a] pos) δ M QB := WW.of (pw_and1 ptS) h
theorem ww_or1 (h : TW X G0 a δ M QB) : WW X G0 (.BoolOp .Or [a] pos) δ M QB := WW.of (pw_or1 ptS) h
theorem ww_and (h : TW X G0 a δ M fun k M' => (k = true → WW X G0 (.BoolOp .And (b :: es) pos) δ M' QB) ∧ (k = false → QB false M')) : WW X G0 (.BoolOp .And (a :: b :: es) pos) δ M QB :=
  WW.of (pw_and ptS pwS) (fun σ G H e0 sl ok R k => h σ G H e0 sl ok _ fun d M1 G1 H1 h1 e1 ok1 => by
    cases d with
    | true => exact iteT (h1.1 rfl σ G1 H1 (e0.trans e1) (sl.mono e1) ok1 R fun b M2 G2 H2 q e2 => k b M2 G2 H2 q (e1.trans e2))
    | false => exact iteF (k _ M1 G1 H1 (h1.2 rfl) e1 ok1))
theorem ww_or (h : TW X G0 a δ M fun k M' => (k = false → WW X G0 (.BoolOp .Or (b :: es) pos) δ M' QB) ∧ (k = true → QB true M')) : WW X G0 (.BoolOp .Or (a :: b :: es) pos) δ M QB :=
  WW.of (pw_or ptS pwS) (fun σ G H e0 sl ok R k => h σ G H e0 sl ok _ fun d M1 G1 H1 h1 e1 ok1 => by
    cases d with
    | false => exact iteF (h1.1 rfl σ G1 H1 (e0.trans e1) (sl.mono e1) ok1 R fun b M2 G2 H2 q e2 => k b M2 G2 H2 q (e1.trans e2))
    | true => exact iteT (k _ M1 G1 H1 (h1.2 rfl) e1 ok1))
/-- and, or as values (truths) -/
theorem ew_and (h : EW X G0 a δ M fun d M' => ∃ k, d = .bl k ∧ (k = true → EW X G0 (.BoolOp .And (b :: es) pos) δ M' Q) ∧ (k = false → Q (.bl false) M')) : EW X G0 (.BoolOp .And (a :: b :: es) pos) δ M Q :=
  EW.of (pe_and peS peS) (fun σ G H e0 sl ok R k => h σ G H e0 sl ok _ fun d M1 v1 G1 H1 h1 e1 ok1 r1 => by
    obtain ⟨d, rfl, h1, h2⟩ := h1
    cases r1
    cases d with
    | true => exact ⟨true, rfl, iteT (h1 rfl σ G1 H1 (e0.trans e1) (sl.mono e1) ok1 R fun b M2 v2 G2 H2 q e2 => k b M2 v2 G2 H2 q (e1.trans e2))⟩
    | false => exact ⟨false, rfl, iteF (k _ M1 _ G1 H1 (h2 rfl) e1 ok1 (.bl _))⟩)
theorem ew_or (h : EW X G0 a δ M fun d M' => ∃ k, d = .bl k ∧ (k = false → EW X G0 (.BoolOp .Or (b :: es) pos) δ M' Q) ∧ (k = true → Q (.bl true) M')) : EW X G0 (.BoolOp .Or (a :: b :: es) pos) δ M Q :=
  EW.of (pe_or peS peS) (fun σ G H e0 sl ok R k => h σ G H e0 sl ok _ fun d M1 v1 G1 H1 h1 e1 ok1 r1 => by
    obtain ⟨d, rfl, h1, h2⟩ := h1
    cases r1
    cases d with
    | false => exact ⟨false, rfl, iteF (h1 rfl σ G1 H1 (e0.trans e1) (sl.mono e1) ok1 R fun b M2 v2 G2 H2 q e2 => k b M2 v2 G2 H2 q (e1.trans e2))⟩
    | true => exact ⟨true, rfl, iteT (k _ M1 _ G1 H1 (h2 rfl) e1 ok1 (.bl _))⟩)
theorem ew_one {op : BoolOp} (h : EW X G0 a δ M Q) : EW X G0 (.BoolOp op [a] pos) δ M Q := EW.of (pe_one peS) h
theorem ew_not (h : EW X G0 a δ M fun d M' => ∃ k, d = .bl k ∧ Q (.bl (!k)) M') : EW X G0 (.UnaryOp .Not a pos) δ M Q :=
  EW.of (pe_not peS) (fun σ G H e0 sl ok R k => h σ G H e0 sl ok _ fun d M1 v1 G1 H1 h1 e1 ok1 r1 => by
    obtain ⟨d, rfl, h1⟩ := h1
    cases r1
    exact ⟨d, rfl, k _ M1 _ G1 H1 h1 e1 ok1 (.bl _)⟩)
theorem ew_ifExp (h : TW X G0 c δ M fun k M' => (k = true → EW X G0 a δ M' Q) ∧ (k = false → EW X G0 b δ M' Q)) : EW X G0 (.IfExp c a b pos) δ M Q :=
  EW.of (pe_ifExp ptS peS peS) (fun σ G H e0 sl ok R k => h σ G H e0 sl ok _ fun d M1 G1 H1 h1 e1 ok1 => by
    cases d with
    | true => exact iteT (h1.1 rfl σ G1 H1 (e0.trans e1) (sl.mono e1) ok1 R fun b M2 v2 G2 H2 q e2 => k b M2 v2 G2 H2 q (e1.trans e2))
    | false => exact iteF (h1.2 rfl σ G1 H1 (e0.trans e1) (sl.mono e1) ok1 R fun b M2 v2 G2 H2 q e2 => k b M2 v2 G2 H2 q (e1.trans e2)))

/-! ### argument lists, displays -/
theorem aw_nil (h : QA [] M) : AW X G0 [] δ M QA := AW.of pa_nil fun σ G H e0 sl ok R k => k [] M [] G H h (Same.refl _) ok .nil
theorem aw_cons (h : EW X G0 e δ M fun d M1 => AW X G0 es δ M1 fun ds M2 => QA (d :: ds) M2) (hs : starEach (e :: es) X.env = (false, eval e X.env) :: starEach es X.env := by rfl) : AW X G0 (e :: es) δ M QA :=
  AW.of (pa_cons peS paS hs) fun σ G H e0 sl ok R k => h σ G H e0 sl ok _ fun d M1 v1 G1 H1 h1 e1 ok1 r1 => h1 σ G1 H1 (e0.trans e1) (sl.mono e1) ok1 _ fun ds M2 vs G2 H2 h2 e2 ok2 r2 =>
    k (d :: ds) M2 _ G2 H2 h2 (e1.trans e2) ok2 (.cons (r1.mono e2) r2)
theorem line_of {n : Nat} (h : n ≤ 1000000) : n ≤ sizeLine := Nat.le_trans h (by decide)
theorem line_lt {n : Nat} (h : n ≤ 1000000) : n < sizeLine := Nat.lt_of_le_of_lt h (by decide)
theorem ew_tup {x1} (h : AW X G0 es δ M fun ds M1 => ds.length ≤ 1000000 ∧ Q (.tup ds) M1) : EW X G0 (.Tuple es x1 pos) δ M Q :=
  EW.of (pe_tup paS) fun σ G H e0 sl ok R k => h σ G H e0 sl ok _ fun ds M1 vs G1 H1 h1 e1 ok1 r1 => ⟨by rw [r1.length]; exact line_of h1.1, fun p hp => by
    have hg := ok1.free hp
    exact k _ M1 _ _ _ h1.2 (e1.trans (same_new hg.1)) (ok1.laid hp) (.tup upd_same (r1.mono (same_new hg.1)))⟩
theorem ew_lst (h : AW X G0 es δ M fun ds M1 => ds.length ≤ 1000000 ∧ Q (.lst ds) M1) : EW X G0 (.List es pos) δ M Q :=
  EW.of (pe_lst paS) fun σ G H e0 sl ok R k => h σ G H e0 sl ok _ fun ds M1 vs G1 H1 h1 e1 ok1 r1 => ⟨by rw [r1.length]; exact line_of h1.1, fun p hp => by
    have hg := ok1.free hp
    exact k _ M1 _ _ _ h1.2 (e1.trans (same_new hg.1)) (ok1.laid hp) (.lst upd_same (r1.mono (same_new hg.1)))⟩
/-- a list that may change -/
theorem ew_lstM (h : AW X G0 es δ M fun ds M1 => ds.length ≤ 1000000 ∧ ∀ p, M1 p = none → Q (.obj p) (mset M1 p (some (.lst ds)))) : EW X G0 (.List es pos) δ M Q :=
  EW.of (pe_lst paS) fun σ G H e0 sl ok R k => h σ G H e0 sl ok _ fun ds M1 vs G1 H1 h1 e1 ok1 r1 => ⟨by rw [r1.length]; exact line_of h1.1, fun p hp => by
    have hg := ok1.free hp
    exact k _ _ _ _ _ (h1.2 p hg.2) e1 (ok1.laidM hp (.lst r1)) (.obj p)⟩

/-! ### slices -/
def OW (X : Cx) (G0 : Hp) (e : Option Expr) (δ : Dl) (M : Mm) (Q : Option Int → Mm → Prop) : Prop := match e with
  | none => Q none M
  | some e => EW X G0 e δ M fun d M' => ∃ i, d = .int i ∧ Q (some i) M'
def tO (X : Cx) (e : Option Expr) : TO := match e with
  | none => tNoPart
  | some e => tPart (tE X e)
theorem poS {e : Option Expr} : PO X e (tO X e) := by
  cases e with
  | none => exact po_none
  | some e => exact po_some peS
theorem ow_run {eo : Option Expr} {Qo : Option Int → Mm → Prop} (h : OW X G0 eo δ M Qo) {σ : L2.St} {G H : Hp} (e0 : Same G0 G) (sl : Sl X.K G σ δ) (ok : Ok X.K G M H) (R : Option Int → Hp → Prop) (k : ∀ o M' G' H', Qo o M' → Same G G' → Ok X.K G' M' H' → R o H') : tO X eo σ H R := by
  cases eo with
  | none => exact k none M G H h (Same.refl _) ok
  | some e =>
    refine EW.mono h (Q' := fun d M' => ∃ i, d = .int i ∧ Qo (some i) M') (fun _ _ z => z) σ G H e0 sl ok _ fun d M1 v1 G1 H1 h1 e1 ok1 r1 => ?_
    obtain ⟨i, rfl, q⟩ := h1
    cases r1
    exact ⟨i, rfl, k _ M1 G1 H1 q e1 ok1⟩
def cutD (xs : List D) (lo hi : Option Int) : List D := (xs.drop (HT.sIx xs.length 0 lo)).take (HT.sIx xs.length xs.length hi - HT.sIx xs.length 0 lo)
theorem ew_sliceL {lo hi : Option Expr} {p2 : Pos} (h : EW X G0 a δ M fun d M1 => OW X G0 lo δ M1 fun l M2 => OW X G0 hi δ M2 fun u M3 => ∃ ds, (d = .lst ds ∨ ∃ p, d = .obj p ∧ M3 p = some (.lst ds)) ∧ Q (.lst (cutD ds l u)) M3)
    (hh : PE X (.Subscript a (.Slice lo hi none p2) pos) (tSl (rSlL X.K) (tE X a) (tO X lo) (tO X hi)) := by exact pe_slice sl_list peS poS poS) : EW X G0 (.Subscript a (.Slice lo hi none p2) pos) δ M Q :=
  EW.of hh fun σ G H e0 sl ok R k => h σ G H e0 sl ok _ fun d M1 v1 G1 H1 h1 e1 ok1 r1 =>
    ow_run h1 (e0.trans e1) (sl.mono e1) ok1 _ fun l M2 G2 H2 h2 e2 ok2 => ow_run h2 (e0.trans (e1.trans e2)) (sl.mono (e1.trans e2)) ok2 _ fun u M3 G3 H3 h3 e3 ok3 => by
      obtain ⟨ds, hd, q⟩ := h3
      have fin : ∀ (p : Addr) (vs : List V), RepAll X.K G3 vs ds → SqL X.K H3 p vs → v1 = .ref p → rSlL X.K v1 l u H3 R := fun p vs r s ev => by
        refine ⟨p, vs, ev, s, fun z hz => ?_⟩
        have hg := ok3.free hz
        refine k _ M3 _ _ _ q (e1.trans (e2.trans (e3.trans (same_new hg.1)))) (ok3.laid hz) (.lst upd_same ?_)
        unfold cutV cutD
        rw [r.length]
        exact ((r.drop _).take _).mono (same_new hg.1)
      rcases hd with rfl | ⟨p, rfl, hp⟩
      · cases r1 with
        | lst s r => exact fin _ _ (r.mono (e2.trans e3)) (SqL.of (ok3.ex _ _ ((e2.trans e3) _ _ s))) rfl
      · cases r1
        obtain ⟨g, o, ho, ro⟩ := ok3.mu p _ hp
        cases ro with
        | lst r => exact fin _ _ r (SqL.of ho) rfl

/-! ### statements -/
theorem sws_nil (h : E.nx δ M) : SWs X G0 [] δ M E := SWs.of pss_nil fun σ G H e0 sl ok R k1 k2 k3 k4 => k1 δ M σ G H h (Same.refl _) sl ok
theorem sws_cons {st : Stmt} {rest : List Stmt} (h : SW X G0 st δ M { E with nx := fun δ' M' => SWs X G0 rest δ' M' E }) : SWs X G0 (st :: rest) δ M E :=
  SWs.of (pss_cons psS pssS) fun σ G H e0 sl ok R k1 k2 k3 k4 => h σ G H e0 sl ok { R with nx := tSs X rest R }
    (fun δ1 M1 σ1 G1 H1 h1 e1 sl1 ok1 => h1 σ1 G1 H1 (e0.trans e1) sl1 ok1 R (fun δ2 M2 σ2 G2 H2 h2 e2 => k1 δ2 M2 σ2 G2 H2 h2 (e1.trans e2)) (fun δ2 M2 σ2 G2 H2 h2 e2 => k2 δ2 M2 σ2 G2 H2 h2 (e1.trans e2))
      (fun δ2 M2 σ2 G2 H2 h2 e2 => k3 δ2 M2 σ2 G2 H2 h2 (e1.trans e2)) (fun δ2 M2 σ2 G2 H2 h2 e2 => k4 δ2 M2 σ2 G2 H2 h2 (e1.trans e2))) k2 k3 k4
/-- a word between a statement and the rest -/
theorem sws_cut {st : Stmt} {rest : List Stmt} (Mid : Dl → Mm → Prop) (h : SW X G0 st δ M { E with nx := Mid }) (h2 : ∀ δ' M', Mid δ' M' → SWs X G0 rest δ' M' E) : SWs X G0 (st :: rest) δ M E :=
  sws_cons (fun σ G H e0 sl ok R k1 k2 k3 k4 => h σ G H e0 sl ok R (fun δ1 M1 σ1 G1 H1 h1 => k1 δ1 M1 σ1 G1 H1 (h2 _ _ h1)) k2 k3 k4)
/-- slots are forgotten -/
theorem sws_weak {sts : List Stmt} (δ' : Dl) (hl : δ'.length = δ.length) (h : ∀ (i : Nat) (d : D), δ'[i]? = some (some d) → δ[i]? = some (some d)) (q : SWs X G0 sts δ' M E) : SWs X G0 sts δ M E := fun σ G H e0 sl => q σ G H e0 (sl.weak hl h)
theorem sw_ret (h : EW X G0 e δ M E.rt) : SW X G0 (.Return (some e) pos) δ M E := SW.of (ps_ret peS) fun σ G H e0 sl ok R k1 k2 k3 k4 => h σ G H e0 sl ok _ k2
theorem sw_retN (h : E.rt .non M) : SW X G0 (.Return none pos) δ M E := SW.of ps_retN fun σ G H e0 sl ok R k1 k2 k3 k4 => k2 .non M _ G H h (Same.refl _) ok .non
theorem sw_expr (h : EW X G0 e δ M fun _ M' => E.nx δ M') (hp : PS X (.Expr e pos) (tDrop (tE X e)) := by exact ps_expr peS) : SW X G0 (.Expr e pos) δ M E := SW.of hp fun σ G H e0 sl ok R k1 k2 k3 k4 => h σ G H e0 sl ok _ fun d M1 v1 G1 H1 h1 e1 ok1 _ => k1 δ M1 σ G1 H1 h1 e1 (sl.mono e1) ok1
theorem sw_pass (h : E.nx δ M) : SW X G0 (.Pass pos) δ M E := SW.of ps_pass fun σ G H e0 sl ok R k1 k2 k3 k4 => k1 δ M σ G H h (Same.refl _) sl ok
theorem sw_break (h : E.bk δ M) : SW X G0 (.Break pos) δ M E := SW.of ps_break fun σ G H e0 sl ok R k1 k2 k3 k4 => k3 δ M σ G H h (Same.refl _) sl ok
theorem sw_continue (h : E.ct δ M) : SW X G0 (.Continue pos) δ M E := SW.of ps_continue fun σ G H e0 sl ok R k1 k2 k3 k4 => k4 δ M σ G H h (Same.refl _) sl ok
theorem sw_if {x y : List Stmt} (h : TW X G0 c δ M fun k M' => (k = true → SWs X G0 x δ M' E) ∧ (k = false → SWs X G0 y δ M' E)) : SW X G0 (.If c x y pos) δ M E :=
  SW.of (ps_if ptS pssS pssS) fun σ G H e0 sl ok R k1 k2 k3 k4 => h σ G H e0 sl ok _ fun d M1 G1 H1 h1 e1 ok1 => by
    have go : ∀ sts, SWs X G0 sts δ M1 E → tSs X sts R σ H1 := fun sts q => q σ G1 H1 (e0.trans e1) (sl.mono e1) ok1 R (fun δ2 M2 σ2 G2 H2 h2 e2 => k1 δ2 M2 σ2 G2 H2 h2 (e1.trans e2)) (fun δ2 M2 σ2 G2 H2 h2 e2 => k2 δ2 M2 σ2 G2 H2 h2 (e1.trans e2))
      (fun δ2 M2 σ2 G2 H2 h2 e2 => k3 δ2 M2 σ2 G2 H2 h2 (e1.trans e2)) (fun δ2 M2 σ2 G2 H2 h2 e2 => k4 δ2 M2 σ2 G2 H2 h2 (e1.trans e2))
    cases d with
    | true => exact iteT (go _ (h1.1 rfl))
    | false => exact iteF (go _ (h1.2 rfl))
theorem sw_set (i : Nat) {x : Str} {pos' : Pos} (h : EW X G0 e δ M fun d M' => E.nx (δ.set i (some d)) M') (hN : X.N.Nodup) (hi : X.N[i]? = some x := by rfl) (hx : Loc X.env.scope x := by first | exact Or.inl rfl | exact Or.inr rfl)
    (hs : swapsWith e (some (.Name x pos')) pos.line X.env = pure false := by rfl) (hf : X.fn x = true ∨ X.env.scope.names.lookup x = some .local := by first | exact .inl rfl | exact .inr rfl) : SW X G0 (.Assign [.Name x pos'] e pos) δ M E :=
  SW.of (ps_set hN hi hx peS hs hf) fun σ G H e0 sl ok R k1 k2 k3 k4 => h σ G H e0 sl ok _ fun d M1 v1 G1 H1 h1 e1 ok1 r1 => k1 _ M1 _ G1 H1 h1 e1 ((sl.mono e1).set r1) ok1
theorem sw_aug (i : Nat) {x : Str} {pos' : Pos} {op : Operator} {f : Int → Int → Int} {n : Int} (hd : δ[i]? = some (some (.int n))) (h : EW X G0 e δ M fun d M' => ∃ m, d = .int m ∧ E.nx (δ.set i (some (.int (f n m)))) M') (hN : X.N.Nodup) (ho : PIp X op (ipI f)) (hi : X.N[i]? = some x := by rfl) (hx : Loc X.env.scope x := by first | exact Or.inl rfl | exact Or.inr rfl)
    (hf : X.fn x = true ∨ X.env.scope.names.lookup x = some .local := by first | exact .inl rfl | exact .inr rfl) : SW X G0 (.AugAssign (.Name x pos') op e pos) δ M E :=
  SW.of (ps_aug hN hi hx peS ho hf) fun σ G H e0 sl ok R k1 k2 k3 k4 => by
    obtain ⟨v, h1, h2⟩ := sl.get i _ hd
    cases h2
    refine ⟨_, h1, h σ G H e0 sl ok _ fun d M1 v1 G1 H1 q e1 ok1 r1 => ?_⟩
    obtain ⟨m, rfl, q⟩ := q
    cases r1
    exact ⟨n, m, rfl, rfl, k1 _ M1 _ G1 H1 q e1 ((sl.mono e1).set (.int _)) ok1⟩
/-- o[i] = v: by values -/
def RSt (K : PySem.W.Frag) (r : TSet) (o i v : D) (M : Mm) (Q : Mm → Prop) : Prop :=
  ∀ G H v1 v2 v3, Ok K G M H → Rep K G v1 o → Rep K G v2 i → Rep K G v3 v → ∀ R : Hp → Prop, (∀ M' G' H', Q M' → Same G G' → Ok K G' M' H' → R H') → r v1 v2 v3 H R
theorem sw_setItem {o i : Expr} {pos' : Pos} {r : TSet} (hs : PSet X r) (h : EW X G0 e δ M fun d M1 => EW X G0 o δ M1 fun od M2 => EW X G0 i δ M2 fun id M3 => RSt X.K r od id d M3 fun M4 => E.nx δ M4)
    (ha : ∀ v, assign (.Subscript o i pos') X.env v = (do
      let ov ← holding [v] (eval o X.env)
      let iv ← holding [v, ov] (eval i X.env)
      standAt pos'
      holding [v, ov, iv] (setItem ov iv v)
      release [v, ov, iv] []) := by intro _; rfl) (hw1 : swapsWithSole [.Subscript o i pos'] e pos.line X.env = pure false := by rfl) (hw2 : swappedStores [.Subscript o i pos'] e X.env = pure none := by rfl)
    (h1 : (assignEach [.Subscript o i pos'] X.env).map (·.2) = [assign (.Subscript o i pos') X.env] := by rfl) : SW X G0 (.Assign [.Subscript o i pos'] e pos) δ M E :=
  SW.of (ps_asg peS (pg_sub peS peS hs ha) hw1 hw2 h1) fun σ G H e0 sl ok R k1 k2 k3 k4 => h σ G H e0 sl ok _ fun d M1 v1 G1 H1 h1 e1 ok1 r1 => h1 σ G1 H1 (e0.trans e1) (sl.mono e1) ok1 _ fun od M2 v2 G2 H2 h2 e2 ok2 r2 =>
    h2 σ G2 H2 (e0.trans (e1.trans e2)) (sl.mono (e1.trans e2)) ok2 _ fun id M3 v3 G3 H3 h3 e3 ok3 r3 => h3 G3 H3 v2 v3 v1 ok3 (r2.mono e3) r3 (r1.mono (e2.trans e3)) _ fun M4 G4 H4 h4 e4 ok4 =>
      k1 δ M4 σ G4 H4 h4 (e1.trans (e2.trans (e3.trans e4))) (sl.mono (e1.trans (e2.trans (e3.trans e4)))) ok4

/-! ### what changed stays as it is from now on; what is forgotten -/
/-- what stands at p tells d when it is laid down -/
def Frz (p : Addr) (mo : MO) (d : D) : Prop := ∀ (K : PySem.W.Frag) (G : Hp) (o : HO), G p = none → RepO K G o mo → Rep K (upd G p o) (.ref p) d
theorem frz_lst {p : Addr} {ds : List D} : Frz p (.lst ds) (.lst ds) := fun K G o g r => by
  cases r with
  | lst r => exact .lst upd_same (r.mono (same_new g))
theorem frz_dK {p : Addr} {ds : List (Key × D)} : Frz p (.dK ds) (.dK ds) := fun K G o g r => by
  cases r with
  | dK r => exact .dK (Rd.of upd_same) (r.mono (same_new g))
theorem frz_dT {p : Addr} {ds : List (List Key × D)} : Frz p (.dT ds) (.dT ds) := fun K G o g r => by
  cases r with
  | dT r => exact .dT (Rd.of upd_same) (r.mono (same_new g))
theorem frz_ins {p C : Addr} {fs : List (Str × D)} : Frz p (.ins C fs) (.ins C fs) := fun K G o g r => by
  cases r with
  | ins r => exact .ins upd_same (r.mono (same_new g))
theorem sws_freezeG (i : Nat) {p : Addr} {mo : MO} {d : D} {sts : List Stmt} (hf : Frz p mo d) (hd : δ[i]? = some (some (.obj p))) (hp : M p = some mo) (h : SWs X G0 sts (δ.set i (some d)) (mset M p none) E) : SWs X G0 sts δ M E := fun σ G H e0 sl ok R k1 k2 k3 k4 => by
  obtain ⟨g, o, ho, ro⟩ := ok.mu p _ hp
  have e1 := same_new (G := G) (o := o) g
  obtain ⟨v, h1, h2⟩ := sl.get i _ hd
  cases h2
  have sl2 : Sl X.K (upd G p o) σ (δ.set i (some d)) := by
    have q := (sl.mono e1).set (i := i) (hf X.K G o g ro)
    rw [show σ.set i (some (V.ref p)) = σ from by
      apply List.ext_getElem?
      intro j
      by_cases hj : i = j
      · subst hj
        have hl := (List.getElem?_eq_some_iff.mp h1).1
        rw [List.getElem?_set_self hl, h1]
      · rw [List.getElem?_set_ne hj]] at q
    exact q
  exact h σ _ H (e0.trans e1) sl2 (ok.freeze ho g) R (fun δ2 M2 σ2 G2 H2 h2 e2 => k1 δ2 M2 σ2 G2 H2 h2 (e1.trans e2)) (fun δ2 M2 σ2 G2 H2 h2 e2 => k2 δ2 M2 σ2 G2 H2 h2 (e1.trans e2))
    (fun δ2 M2 σ2 G2 H2 h2 e2 => k3 δ2 M2 σ2 G2 H2 h2 (e1.trans e2)) (fun δ2 M2 σ2 G2 H2 h2 e2 => k4 δ2 M2 σ2 G2 H2 h2 (e1.trans e2))
theorem sws_freeze (i : Nat) {p : Addr} {ds : List D} {sts : List Stmt} (hd : δ[i]? = some (some (.obj p))) (hp : M p = some (.lst ds)) (h : SWs X G0 sts (δ.set i (some (.lst ds))) (mset M p none) E) : SWs X G0 sts δ M E := sws_freezeG i frz_lst hd hp h
theorem sws_freezeD (i : Nat) {p : Addr} {ds : List (Key × D)} {sts : List Stmt} (hd : δ[i]? = some (some (.obj p))) (hp : M p = some (.dK ds)) (h : SWs X G0 sts (δ.set i (some (.dK ds))) (mset M p none) E) : SWs X G0 sts δ M E := sws_freezeG i frz_dK hd hp h
theorem sws_freezeT (i : Nat) {p : Addr} {ds : List (List Key × D)} {sts : List Stmt} (hd : δ[i]? = some (some (.obj p))) (hp : M p = some (.dT ds)) (h : SWs X G0 sts (δ.set i (some (.dT ds))) (mset M p none) E) : SWs X G0 sts δ M E := sws_freezeG i frz_dT hd hp h
theorem sws_freezeI (i : Nat) {p C : Addr} {fs : List (Str × D)} {sts : List Stmt} (hd : δ[i]? = some (some (.obj p))) (hp : M p = some (.ins C fs)) (h : SWs X G0 sts (δ.set i (some (.ins C fs))) (mset M p none) E) : SWs X G0 sts δ M E := sws_freezeG i frz_ins hd hp h
theorem sws_forget {p : Addr} {sts : List Stmt} (h : SWs X G0 sts δ (mset M p none) E) : SWs X G0 sts δ M E := fun σ G H e0 sl ok => h σ G H e0 sl ok.forget
theorem ew_forget {p : Addr} (h : EW X G0 e δ (mset M p none) Q) : EW X G0 e δ M Q := fun σ G H e0 sl ok => h σ G H e0 sl ok.forget
end
end Aw
namespace Aw
open PySem PySem.Spec PyProof.Rows L2

/-! ### what a def promises -/
abbrev Zk := Value → List (Str × D) → Mm → Prop
abbrev Zx := Value → List (Str × D) → Dl → Mm → Prop
abbrev ASp := List D → Mm → (D → Mm → Prop) → Zk → Prop
def RepX (K : PySem.W.Frag) (G : Hp) (d : Option Addr) (fs : List (Str × D)) : Prop :=
  (d = none ∧ fs = []) ∨ ∃ dd fs', d = some dd ∧ G dd = some (.xd fs') ∧ RepKV K G Str fs' fs
def spOf (K : PySem.W.Frag) (n : Nat) (S : ASp) : Sp := fun vs H Q E => vs.length = n ∧ ∃ (G : Hp) (M : Mm) (ds : List D) (A : D → Mm → Prop) (Z : Zk), RepAll K G vs ds ∧ Ok K G M H ∧ S ds M A Z ∧
  (∀ d M' v G' H', A d M' → Same G G' → Ok K G' M' H' → Rep K G' v d → Q v H') ∧ (∀ cls d fs M' G' H', Z cls fs M' → Same G G' → Ok K G' M' H' → RepX K G' d fs → E cls d H')
abbrev FnA (P : Program) (w : World) (K : PySem.W.Frag) (mg : Str → Option Value) (base : Heap) (k : Nat) (f : Addr) (fd : FuncData) (ps : List Str) (S : ASp) : Prop :=
  FnOk P w K mg base (L2.CX P w) k f fd ps (spOf K ps.length S)
theorem FnA.imp {P : Program} {w : World} {K : PySem.W.Frag} {mg : Str → Option Value} {base : Heap} {k : Nat} {f : Addr} {fd : FuncData} {ps : List Str} {S S' : ASp} (F : FnA P w K mg base k f fd ps S)
    (h : ∀ ds M A Z, ds.length = ps.length → S' ds M A Z → S ds M A Z) : FnA P w K mg base k f fd ps S' :=
  FnOk.imp F fun vs H Q E ⟨hl, G, M, ds, A, Z, r, ok, s, q1, q2⟩ => ⟨hl, G, M, ds, A, Z, r, ok, h ds M A Z (r.length.symm.trans hl) s, q1, q2⟩
/-- what this code's surroundings take of exceptions -/
def TZ (X : Cx) (G0 : Hp) (Z : Zx) : Prop := ∃ W : WX, Takes X W ∧ ∀ cls d fs δ M σ G H, Z cls fs δ M → Same G0 G → Sl X.K G σ δ → Ok X.K G M H → RepX X.K G d fs → W cls d σ H
theorem tz0 {X : Cx} {G0 : Hp} : TZ X G0 (fun _ _ _ _ => False) := ⟨_, takes0, fun _ _ _ _ _ _ _ _ h => h.elim⟩
section
variable {P : Program} {w : World} {K : PySem.W.Frag} {mg : Str → Option Value} {base : Heap}
theorem start_sl {G : Hp} {N : List Str} {vs : List V} {ds : List D} (r : RepAll K G vs ds) : Sl K G (start N vs) (ds.map some ++ List.replicate (N.length - ds.length) none) := by
  refine ⟨by simp [L2.start, r.length], fun i d h => ?_⟩
  rw [List.getElem?_append] at h
  split at h
  · rename_i hl
    rw [List.getElem?_map] at h
    cases q : ds[i]? with
    | none => rw [q] at h; cases h
    | some d' =>
      rw [q] at h
      cases h
      obtain ⟨v, h1, h2⟩ := r.get q
      refine ⟨v, ?_, h2⟩
      unfold L2.start
      rw [List.getElem?_append_left (by simp [r.length]; simpa using hl), List.getElem?_map, h1]
      all_goals rfl
  · rw [List.getElem?_replicate] at h
    split at h <;> cases h
/-- THE RULE for a def -/
theorem fn_ok {x qual : Str} {st : Stmt} {f : Addr} {fd : FuncData} {N ps : List Str} {k : Nat} {S : ASp} (F : Fun K x qual st f fd) (Sc : FnScope N ps (defScope st))
    (hbody : ∀ (cdv : Value) (A' : Around) (outer : List Env) (s : Shared) (H : Hp) (E : XK) (G0 : Hp) (ds : List D) (M : Mm) (A : D → Mm → Prop) (Z : Zk), Room k (A'.deeper (envOfC qual (defScope st) s.heap.objs.size f cdv)) → ds.length = ps.length → S ds M A Z →
      TZ (cxOf (L2.CX P w) P w K mg base N qual (defScope st) f cdv A' outer s H E) G0 (fun cls fs _ M' => Z cls fs M') →
      SWs (cxOf (L2.CX P w) P w K mg base N qual (defScope st) f cdv A' outer s H E) G0 (defBody st) (ds.map some ++ List.replicate (N.length - ds.length) none) M { nx := fun _ M' => A .non M', rt := A }) : FnA P w K mg base (k + 1) f fd ps S := by
  refine F.okX Sc (fun vs H Q E h => h.1) (fun cdv A' outer s H vs Q E hr h => ?_)
  obtain ⟨hl, G, M, ds, A, Z, r, ok, hs, q1, q2⟩ := h
  refine ⟨_, pssS, ?_⟩
  refine hbody cdv A' outer s H E G ds M A Z hr (r.length.symm.trans hl) hs ⟨_, takes_of rfl rfl rfl rfl, fun cls d fs δ M σ G2 H2 z e sl ok2 rx => q2 cls d fs M G2 H2 z e ok2 rx⟩ _ _ H (Same.refl _) (start_sl r) ok _ (fun δ' M' σ' G' H' h e sl' ok' => q1 .non M' .non G' H' h e ok' .non) (fun d M' v G' H' h e ok' r' => q1 d M' v G' H' h e ok' r') (fun _ _ _ _ _ h => h.elim) (fun _ _ _ _ _ h => h.elim)
end

section
variable {X : Cx} {G0 : Hp} {δ : Dl} {M : Mm} {e a b c o : Expr} {es : List Expr} {Q : D → Mm → Prop} {QB : Bool → Mm → Prop} {QA : List D → Mm → Prop} {E : En} {p pos apos : Pos} {Z : Zx}
  {k j : Nat} {f C : Addr} {fd : FuncData} {ps : List Str} {S : ASp} {x m : Str}
theorem repAll_cons {K : PySem.W.Frag} {G : Hp} {v : V} {d : D} {vs : List V} {ds : List D} (h : Rep K G v d) (r : RepAll K G vs ds) : RepAll K G (v :: vs) (d :: ds) := .cons h r
/-! ### calls of defs -/
theorem sp_call (Zr : Zx) (Wr : WX) {σ : L2.St} {G H : Hp} {vs : List V} {ds : List D} {R : VK} {n : Nat} (e0 : Same G0 G) (sl : Sl X.K G σ δ) (ok : Ok X.K G M H) (r : RepAll X.K G vs ds) (hn : ds.length = n) (h : S ds M Q (fun cls fs M' => Zr cls fs δ M'))
    (hw : ∀ cls d fs δ M σ G H, Zr cls fs δ M → Same G0 G → Sl X.K G σ δ → Ok X.K G M H → RepX X.K G d fs → Wr cls d σ H) (q : ∀ d M' v G' H', Q d M' → Same G G' → Ok X.K G' M' H' → Rep X.K G' v d → R v H') : spOf X.K n S vs H R (WE Wr σ) :=
  ⟨r.length.trans hn, G, M, ds, Q, _, r, ok, h, q, fun cls d fs M' G' H' z e ok' rx => hw cls d fs δ M' σ G' H' z (e0.trans e) (sl.mono e) ok' rx⟩
theorem ew_call (F : FnA X.prog X.w X.K X.mg X.base j f fd ps S) (hr : Room k X.A) (hjk : j ≤ k) (tz : TZ X G0 Z) (hm : X.mg x = some (.ref f)) (hk : PySem.W.keepIn X.K (.ref f) = true) (hb : Binds X.K fd ps []) (h : AW X G0 (e :: es) δ M fun ds M1 => ds.length = ps.length ∧ S ds M1 Q (fun cls fs M2 => Z cls fs δ M2))
    (hg : Gl X x := by rfl) (hdb : (x == ("__debug__" : Str)) = false := by decide) (he : starEach (e :: es) X.env = (false, eval e X.env) :: starEach es X.env := by rfl) (hpl : (backTo pos (starEach es X.env)).any (·.1) = false := by rfl) :
    EW X G0 (.Call (.Name x p) (e :: es) [] pos) δ M Q := by
  obtain ⟨W, tk, hw⟩ := tz
  refine EW.of (pe_callSD F (hr.mono hjk) hg hm hk hb .nil (E := WE W) (fun σ => passAt tk σ) paS hdb he hpl) fun σ G H e0 sl ok R q => h σ G H e0 sl ok _ fun ds M1 vs G1 H1 h1 e1 ok1 r1 => ?_
  rw [List.append_nil]
  exact sp_call Z W (e0.trans e1) (sl.mono e1) ok1 r1 h1.1 h1.2 hw fun d M' v G' H' h' e' => q d M' v G' H' h' (e1.trans e')
theorem pe_call0SD {CX : CXT} {sp : Sp} {dvs : List V} {ds : List Value} {E : L2.St → XK} (F : FnOk X.prog X.w X.K X.mg X.base CX k f fd ps sp) (hr : Room k X.A) (hg : Gl X x) (hm : X.mg x = some (.ref f)) (hk : PySem.W.keepIn X.K (.ref f) = true) (hb : Binds X.K fd ps ds) (hd : Vals dvs ds) (hx : ∀ σ, PassesAt CX X σ (E σ))
    (hdb : (x == ("__debug__" : Str)) = false := by decide) : PE X (.Call (.Name x p) [] [] pos) (fun σ H Q => sp dvs H Q (E σ)) := by
  refine ⟨fun pins s σ H Q I h => ?_⟩
  refine wpAny_Call_Name_kw (ld_glob I hg hm ?_ hdb)
  exact PySem.W.callWith_K0 I.kIn hk (run_fnSD (us := []) (vs := []) F hr hb hd (hx σ) I .nil h)
theorem ew_call0 (F : FnA X.prog X.w X.K X.mg X.base j f fd ps S) (hr : Room k X.A) (hjk : j ≤ k) (tz : TZ X G0 Z) (hm : X.mg x = some (.ref f)) (hk : PySem.W.keepIn X.K (.ref f) = true) (hb : Binds X.K fd ps []) (h : ps.length = 0 ∧ S [] M Q (fun cls fs M2 => Z cls fs δ M2))
    (hg : Gl X x := by rfl) (hdb : (x == ("__debug__" : Str)) = false := by decide) : EW X G0 (.Call (.Name x p) [] [] pos) δ M Q := by
  obtain ⟨W, tk, hw⟩ := tz
  refine EW.of (pe_call0SD F (hr.mono hjk) hg hm hk hb .nil (E := WE W) (fun σ => passAt tk σ) hdb) fun σ G H e0 sl ok R q => ?_
  exact sp_call Z W e0 sl ok .nil h.1.symm h.2 hw q

/-! ### objects: attributes, methods, making -/
theorem et_fld {K : PySem.W.Frag} {ta : TE} {g : Str} (h : ET K G0 ta δ M fun d M1 => ∃ C fs d', (d = .ins C fs ∨ ∃ p, d = .obj p ∧ M1 p = some (.ins C fs)) ∧ Cls K C ∧ NoAttr K C g ∧ fs.lookup g = some d' ∧ Q d' M1) : ET K G0 (tFld K ta g) δ M Q := fun σ G H e0 sl ok R q =>
  h σ G H e0 sl ok _ fun d M1 v G1 H1 h1 e1 ok1 r1 => by
    obtain ⟨C, fs, d', hd, c, na, hl, hq⟩ := h1
    rcases hd with rfl | ⟨p, rfl, hp⟩
    · cases r1 with
      | ins g r =>
        obtain ⟨v', l1, l2⟩ := r.lookup hl
        exact ⟨_, C, _, _, v', rfl, ok1.ex _ _ g, c, na, l1, q _ _ _ _ _ hq e1 ok1 l2⟩
    · cases r1
      obtain ⟨g, o, ho, ro⟩ := ok1.mu p _ hp
      cases ro with
      | ins r =>
        obtain ⟨v', l1, l2⟩ := r.lookup hl
        exact ⟨_, C, _, _, v', rfl, ho, c, na, l1, q _ _ _ _ _ hq e1 ok1 l2⟩
theorem ew_fld {g : Str} (h : EW X G0 e δ M fun d M1 => ∃ C fs d', (d = .ins C fs ∨ ∃ p, d = .obj p ∧ M1 p = some (.ins C fs)) ∧ Cls X.K C ∧ NoAttr X.K C g ∧ fs.lookup g = some d' ∧ Q d' M1) (hb : attributeBase e g X.env (eval e X.env) = eval e X.env := by rfl) : EW X G0 (.Attribute e g pos) δ M Q :=
  EW.of (pe_fld peS hb) (et_fld h)
theorem pe_methSD {CX : CXT} {sp : Sp} {dvs : List V} {ds : List Value} {E : L2.St → XK} {ta : TE} {t : TA} {pl : Sem Bool} (he : PE X o ta) (c : Cls X.K C) (hm : Meth X.K C m f) (F : FnOk X.prog X.w X.K X.mg X.base CX k f fd ps sp) (hr : Room k X.A) (hb : Binds X.K fd ps ds) (hd : Vals dvs ds) (hx : ∀ σ, PassesAt CX X σ (E σ)) (ha : PA X (e :: es) t)
    (hst : starEach (e :: es) X.env = (false, eval e X.env) :: starEach es X.env := by rfl) (hpl : (backTo pos (starEach es X.env)).any (·.1) = false := by rfl)
    (ht : eval (.Call (.Attribute o m apos) (e :: es) [] pos) X.env = (do
      let ov ← eval o X.env
      standAt apos.atName
      let (f, first) ← holding [ov] (getMethod ov m pl)
      callWith pos f first (backTo pos (starEach (e :: es) X.env)) (backToKw pos (keywordEach [] X.env))) := by rfl) :
    PE X (.Call (.Attribute o m apos) (e :: es) [] pos) (fun σ H Q => ta σ H fun x H1 => ∃ a dx fs, x = .ref a ∧ H1 a = some (.ins C dx fs) ∧ fs.lookup m = none ∧ t σ H1 fun vs H2 => sp (x :: (vs ++ dvs)) H2 Q (E σ)) := by
  refine ⟨fun pins s σ H Q I h => ?_⟩
  refine PySem.W.methodCall_KW (pl := pl) (thn (he.run pins s σ H _ I h) fun u s1 ⟨x, H1, I1, rx, a, dx, fs, ex, ea, l, q⟩ => ?_) ht
  subst ex
  obtain rfl : u = Value.ref a := rx
  refine getmeth_ok I1 ea c hm l ?_
  refine PySem.W.callWith_K (first := [.ref a]) (h₀ := X.base) I.ok.mod.kin hm.kp (thn (ha.run pos pins s1 σ H1 _ I1 q) fun us s2 ⟨vs, H2, I2, r, q2⟩ => ⟨I2.kIn, ?_⟩) hst hpl
  exact run_fnSD (us := .ref a :: us) (vs := .ref a :: vs) F hr hb hd (hx σ) I2 (.cons rfl r) q2
theorem pe_meth0SD {CX : CXT} {sp : Sp} {dvs : List V} {ds : List Value} {E : L2.St → XK} {ta : TE} {pl : Sem Bool} (he : PE X o ta) (c : Cls X.K C) (hm : Meth X.K C m f) (F : FnOk X.prog X.w X.K X.mg X.base CX k f fd ps sp) (hr : Room k X.A) (hb : Binds X.K fd ps ds) (hd : Vals dvs ds) (hx : ∀ σ, PassesAt CX X σ (E σ))
    (ht : eval (.Call (.Attribute o m apos) [] [] pos) X.env = (do
      let ov ← eval o X.env
      standAt apos.atName
      let (f, first) ← holding [ov] (getMethod ov m pl)
      callWith pos f first (backTo pos (starEach [] X.env)) (backToKw pos (keywordEach [] X.env))) := by rfl) :
    PE X (.Call (.Attribute o m apos) [] [] pos) (fun σ H Q => ta σ H fun x H1 => ∃ a dx fs, x = .ref a ∧ H1 a = some (.ins C dx fs) ∧ fs.lookup m = none ∧ sp (x :: dvs) H1 Q (E σ)) := by
  refine ⟨fun pins s σ H Q I h => ?_⟩
  refine PySem.W.methodCall_KW (pl := pl) (thn (he.run pins s σ H _ I h) fun u s1 ⟨x, H1, I1, rx, a, dx, fs, ex, ea, l, q⟩ => ?_) ht
  subst ex
  obtain rfl : u = Value.ref a := rx
  refine getmeth_ok I1 ea c hm l ?_
  exact PySem.W.callWith_K0 (first := [.ref a]) I1.kIn hm.kp (run_fnSD (us := [.ref a]) (vs := [.ref a]) F hr hb hd (hx σ) I1 (.cons rfl .nil) q)
/-- the receiver: an instance of C without an own attribute of that name -/
def IsI (M : Mm) (d : D) (C : Addr) (fs : List (Str × D)) : Prop := d = .ins C fs ∨ ∃ p, d = .obj p ∧ M p = some (.ins C fs)
theorem isI_at {K : PySem.W.Frag} {G H : Hp} {d : D} {v : V} {fs : List (Str × D)} (ok : Ok K G M H) (i : IsI M d C fs) (r : Rep K G v d) : ∃ a dx fs', v = .ref a ∧ H a = some (.ins C dx fs') ∧ RepKV K G Str fs' fs := by
  rcases i with rfl | ⟨p, rfl, hp⟩
  · cases r with
    | ins g r => exact ⟨_, _, _, rfl, ok.ex _ _ g, r⟩
  · cases r
    obtain ⟨g, o, ho, ro⟩ := ok.mu p _ hp
    cases ro with
    | ins r => exact ⟨_, _, _, rfl, ho, r⟩
theorem ew_meth {pl : Sem Bool} (cl : Cls X.K C) (hm : Meth X.K C m f) (F : FnA X.prog X.w X.K X.mg X.base j f fd ps S) (hr : Room k X.A) (hjk : j ≤ k) (tz : TZ X G0 Z) (hb : Binds X.K fd ps [])
    (h : EW X G0 o δ M fun d M1 => ∃ fs, IsI M1 d C fs ∧ fs.lookup m = none ∧ AW X G0 (e :: es) δ M1 fun ds M2 => (d :: ds).length = ps.length ∧ S (d :: ds) M2 Q (fun cls fs M2 => Z cls fs δ M2))
    (hst : starEach (e :: es) X.env = (false, eval e X.env) :: starEach es X.env := by rfl) (hpl : (backTo pos (starEach es X.env)).any (·.1) = false := by rfl)
    (ht : eval (.Call (.Attribute o m apos) (e :: es) [] pos) X.env = (do
      let ov ← eval o X.env
      standAt apos.atName
      let (f, first) ← holding [ov] (getMethod ov m pl)
      callWith pos f first (backTo pos (starEach (e :: es) X.env)) (backToKw pos (keywordEach [] X.env))) := by rfl) : EW X G0 (.Call (.Attribute o m apos) (e :: es) [] pos) δ M Q := by
  obtain ⟨W, tk, hw⟩ := tz
  refine EW.of (pe_methSD (pl := pl) peS cl hm F (hr.mono hjk) hb .nil (E := WE W) (fun σ => passAt tk σ) paS hst hpl ht) fun σ G H e0 sl ok R q => h σ G H e0 sl ok _ fun d M1 v G1 H1 h1 e1 ok1 r1 => ?_
  obtain ⟨fs, i, hl, h1⟩ := h1
  obtain ⟨a, dx, fs', rfl, ha, rk⟩ := isI_at ok1 i r1
  refine ⟨a, dx, fs', rfl, ha, rk.lookup_none hl, h1 σ G1 H1 (e0.trans e1) (sl.mono e1) ok1 _ fun ds M2 vs G2 H2 h2 e2 ok2 r2 => ?_⟩
  rw [List.append_nil]
  exact sp_call Z W (e0.trans (e1.trans e2)) (sl.mono (e1.trans e2)) ok2 (.cons (r1.mono e2) r2) h2.1 h2.2 hw fun d M' v G' H' h' e' => q d M' v G' H' h' (e1.trans (e2.trans e'))
theorem ew_meth0 {pl : Sem Bool} (cl : Cls X.K C) (hm : Meth X.K C m f) (F : FnA X.prog X.w X.K X.mg X.base j f fd ps S) (hr : Room k X.A) (hjk : j ≤ k) (tz : TZ X G0 Z) (hb : Binds X.K fd ps [])
    (h : EW X G0 o δ M fun d M1 => ∃ fs, IsI M1 d C fs ∧ fs.lookup m = none ∧ [d].length = ps.length ∧ S [d] M1 Q (fun cls fs M2 => Z cls fs δ M2))
    (ht : eval (.Call (.Attribute o m apos) [] [] pos) X.env = (do
      let ov ← eval o X.env
      standAt apos.atName
      let (f, first) ← holding [ov] (getMethod ov m pl)
      callWith pos f first (backTo pos (starEach [] X.env)) (backToKw pos (keywordEach [] X.env))) := by rfl) : EW X G0 (.Call (.Attribute o m apos) [] [] pos) δ M Q := by
  obtain ⟨W, tk, hw⟩ := tz
  refine EW.of (pe_meth0SD (pl := pl) peS cl hm F (hr.mono hjk) hb .nil (E := WE W) (fun σ => passAt tk σ) ht) fun σ G H e0 sl ok R q => h σ G H e0 sl ok _ fun d M1 v G1 H1 h1 e1 ok1 r1 => ?_
  obtain ⟨fs, i, hl, h0, h1⟩ := h1
  obtain ⟨a, dx, fs', rfl, ha, rk⟩ := isI_at ok1 i r1
  refine ⟨a, dx, fs', rfl, ha, rk.lookup_none hl, ?_⟩
  exact sp_call Z W (e0.trans e1) (sl.mono e1) ok1 (.cons r1 .nil) h0 h1 hw fun d M' v G' H' h' e' => q d M' v G' H' h' (e1.trans e')
end
end Aw
namespace Aw
open PySem PySem.Spec PyProof.Rows L2

/-! ### tables -/
def keyD : Key → D
  | .inl i => .int i
  | .inr x => .str x
/-- the key that a value is -/
def keyOf : D → Option Key
  | .int i => some (.inl i)
  | .str x => some (.inr x)
  | _ => none
theorem keyOf_eq : ∀ {d : D} {k : Key}, keyOf d = some k → d = keyD k
  | .int i, _, h => by cases h; rfl
  | .str x, _, h => by cases h; rfl
section
variable {α : Type} [DecidableEq α]
def valD (kvs : List (α × D)) (k : α) : Option D := (kvs.find? fun kv => decide (kv.1 = k)).map (·.2)
def putD (kvs : List (α × D)) (k : α) (v : D) : List (α × D) :=
  if (kvs.any fun kv => decide (kv.1 = k)) = true then kvs.map (fun kv => if kv.1 = k then (kv.1, v) else kv) else kvs ++ [(k, v)]
variable {K : PySem.W.Frag} {G : Hp}
theorem RepKV.find : ∀ {vs : List (α × V)} {ds : List (α × D)} {k : α}, RepKV K G α vs ds → (valD ds k = none ∧ valV vs k = none) ∨ ∃ d v, valD ds k = some d ∧ valV vs k = some v ∧ Rep K G v d
  | _, _, k, .nil => .inl ⟨rfl, rfl⟩
  | _, _, k, .cons (k := k') h r => by
    by_cases e : k' = k
    · exact .inr ⟨_, _, by simp [valD, List.find?_cons, e], by simp [valV, List.find?_cons, e], h⟩
    · rcases RepKV.find (k := k) r with ⟨h1, h2⟩ | ⟨d, v, h1, h2, h3⟩
      · exact .inl ⟨by simpa [valD, List.find?_cons, e] using h1, by simpa [valV, List.find?_cons, e] using h2⟩
      · exact .inr ⟨d, v, by simpa [valD, List.find?_cons, e] using h1, by simpa [valV, List.find?_cons, e] using h2, h3⟩
theorem RepKV.anyk : ∀ {vs : List (α × V)} {ds : List (α × D)} {k : α}, RepKV K G α vs ds → (vs.any fun kv => decide (kv.1 = k)) = (ds.any fun kv => decide (kv.1 = k))
  | _, _, k, .nil => rfl
  | _, _, k, .cons h r => by simp only [List.any_cons]; rw [RepKV.anyk r]
theorem RepKV.append : ∀ {vs ws : List (α × V)} {ds es : List (α × D)}, RepKV K G α vs ds → RepKV K G α ws es → RepKV K G α (vs ++ ws) (ds ++ es)
  | _, _, _, _, .nil, s => s
  | _, _, _, _, .cons h r, s => .cons h (RepKV.append r s)
theorem RepKV.mapput {v : V} {d : D} {k : α} (h : Rep K G v d) : ∀ {vs : List (α × V)} {ds : List (α × D)}, RepKV K G α vs ds → RepKV K G α (vs.map fun kv => if kv.1 = k then (kv.1, v) else kv) (ds.map fun kv => if kv.1 = k then (kv.1, d) else kv)
  | _, _, .nil => .nil
  | _, _, .cons (k := k') h' r => by
    simp only [List.map_cons]
    by_cases e : k' = k
    · rw [if_pos e, if_pos e]; exact .cons h (RepKV.mapput h r)
    · rw [if_neg e, if_neg e]; exact .cons h' (RepKV.mapput h r)
theorem RepKV.put {v : V} {d : D} {k : α} {vs : List (α × V)} {ds : List (α × D)} (r : RepKV K G α vs ds) (h : Rep K G v d) : RepKV K G α (putK vs k v) (putD ds k d) := by
  unfold putK putD
  rw [r.anyk]
  split
  · exact r.mapput h
  · exact r.append (.cons h .nil)
end
def putA (f : Str) (v : D) : List (Str × D) → List (Str × D)
  | [] => [(f, v)]
  | (g, x) :: r => if g = f then (g, v) :: r else (g, x) :: putA f v r
theorem RepKV.putA {K : PySem.W.Frag} {G : Hp} {f : Str} {v : V} {d : D} (h : Rep K G v d) : ∀ {vs : List (Str × V)} {ds : List (Str × D)}, RepKV K G Str vs ds → RepKV K G Str (putF f v vs) (putA f d ds)
  | _, _, .nil => .cons h .nil
  | _, _, .cons (k := k') h' r => by
    unfold putF Aw.putA
    by_cases e : k' = f
    · rw [if_pos e, if_pos e]; exact .cons h r
    · rw [if_neg e, if_neg e]; exact .cons h' (RepKV.putA h r)
theorem Ok.pad {K : PySem.W.Frag} {G H : Hp} {M : Mm} {p : Addr} {o : HO} (k : Ok K G M H) (h : H p = none) : Ok K G M (upd H p o) := by
  obtain ⟨g, m⟩ := k.free h
  refine ⟨fun b u e => ?_, fun b u e => ?_⟩
  · rw [upd_ne (ne_of_none e g)]; exact k.ex b u e
  · obtain ⟨g1, w, h1, r⟩ := k.mu b u e
    have hb : b ≠ p := fun z => by subst z; rw [m] at e; cases e
    exact ⟨g1, w, by rw [upd_ne hb]; exact h1, r⟩

section
variable {X : Cx} {G0 : Hp} {δ : Dl} {M : Mm} {e a b c o : Expr} {es : List Expr} {Q : D → Mm → Prop} {QB : Bool → Mm → Prop} {QA : List D → Mm → Prop} {E : En} {p pos apos pos' : Pos} {Z : Zx}
  {k j : Nat} {f C : Addr} {fd : FuncData} {ps : List Str} {S : ASp} {x m : Str}

/-! ### objects made; attributes stored -/
theorem run_makeSD {CX : CXT} {sp : Sp} {dvs : List V} {ds : List Value} {E : L2.St → XK} {pins : List (Addr × Obj)} {σ : L2.St} {H : Hp} {s : Shared} {Q : VK} {us : List Value} {vs : List V} (M : Mk X.K C f) (F : FnOk X.prog X.w X.K X.mg X.base CX k f fd ps sp) (hr : Room (k + 1) X.A) (hb : Binds X.K fd ps ds) (hd : Vals dvs ds)
    (hx : PassesAt CX X σ (E σ)) (I : Inv X pins σ H s) (r : Vals vs us)
    (h : ∀ x dx, H x = none → H dx = none → dx ≠ x → sp (.ref x :: (vs ++ dvs)) (upd (upd H dx (.own x)) x (.ins C dx [])) (fun v H2 => v = .non ∧ Q (.ref x) H2) (E σ)) :
    wpAny (model X.prog X.w) X.A (call (.ref C) us) (EP X pins σ Q) X.xe s := by
  have hq := h (s.heap.objs.size + 1) s.heap.objs.size (I.hok.fresh (Nat.le_succ _)) (I.hok.fresh (Nat.le_refl _)) (Nat.ne_of_lt (Nat.lt_succ_self _))
  have I2 := Inv.made (C := C) I
  have r2 : Vals (V.ref (s.heap.objs.size + 1) :: (vs ++ dvs)) (Value.ref (s.heap.objs.size + 1) :: (us ++ ds)) := .cons rfl (r.append hd)
  have hl : (Value.ref (s.heap.objs.size + 1) :: us ++ ds).length = ps.length := by
    have e := r2.length
    rw [F.len _ _ _ _ hq] at e
    exact e.symm
  refine wpAny_call (make_map (f := f) I.kIn M.makes M.init (beq_iff_eq.mp M.fn) (codeAny_mono (F.run _ X.stack _ _ ⟨Value.ref (s.heap.objs.size + 1) :: us, []⟩ (Value.ref (s.heap.objs.size + 1) :: (us ++ ds)) _ _ (E σ) (hr.make C us [])
    (I2.env0.make C us []) (hb _ (Value.ref (s.heap.objs.size + 1) :: us) I2.kIn hl) r2 hq) fun r s' hq' => ?_))
  cases r with
  | error e => exact hx pins _ _ e s' I2 hq'
  | ok fl =>
    cases fl with
    | ret u =>
      obtain ⟨v, H', I3, rv, ev, q3⟩ := I2.after hq'
      subst ev
      exact ⟨rv, ⟨V.ref (s.heap.objs.size + 1), H', I3, rfl, q3⟩⟩
    | next => exact False.elim hq'
    | brk => exact False.elim hq'
    | cont => exact False.elim hq'
theorem pe_makeSD {CX : CXT} {sp : Sp} {dvs : List V} {ds : List Value} {E : L2.St → XK} {t : TA} (M : Mk X.K C f) (F : FnOk X.prog X.w X.K X.mg X.base CX k f fd ps sp) (hr : Room (k + 1) X.A) (hg : Gl X x) (hm : X.mg x = some (.ref C)) (hb : Binds X.K fd ps ds) (hd : Vals dvs ds) (hx : ∀ σ, PassesAt CX X σ (E σ))
    (ha : PA X (e :: es) t) (hdb : (x == ("__debug__" : Str)) = false := by decide) (he : starEach (e :: es) X.env = (false, eval e X.env) :: starEach es X.env := by rfl) (hpl : (backTo pos (starEach es X.env)).any (·.1) = false := by rfl) :
    PE X (.Call (.Name x p) (e :: es) [] pos) (fun σ H Q => t σ H fun vs H1 => ∀ x dx, H1 x = none → H1 dx = none → dx ≠ x → sp (.ref x :: (vs ++ dvs)) (upd (upd H1 dx (.own x)) x (.ins C dx [])) (fun v H2 => v = .non ∧ Q (.ref x) H2) (E σ)) := by
  refine ⟨fun pins s σ H Q I h => ?_⟩
  refine wpAny_Call_Name_kw (ld_glob I hg hm ?_ hdb)
  refine PySem.W.callWith_K (h₀ := X.base) I.ok.mod.kin M.kp (thn (ha.run pos pins s σ H _ I h) fun us s1 ⟨vs, H1, I1, r, q⟩ => ⟨I1.kIn, ?_⟩) he hpl
  exact run_makeSD M F hr hb hd (hx σ) I1 r q
theorem pe_make0SD {CX : CXT} {sp : Sp} {dvs : List V} {ds : List Value} {E : L2.St → XK} (M : Mk X.K C f) (F : FnOk X.prog X.w X.K X.mg X.base CX k f fd ps sp) (hr : Room (k + 1) X.A) (hg : Gl X x) (hm : X.mg x = some (.ref C)) (hb : Binds X.K fd ps ds) (hd : Vals dvs ds) (hx : ∀ σ, PassesAt CX X σ (E σ))
    (hdb : (x == ("__debug__" : Str)) = false := by decide) :
    PE X (.Call (.Name x p) [] [] pos) (fun σ H1 Q => ∀ x dx, H1 x = none → H1 dx = none → dx ≠ x → sp (.ref x :: dvs) (upd (upd H1 dx (.own x)) x (.ins C dx [])) (fun v H2 => v = .non ∧ Q (.ref x) H2) (E σ)) := by
  refine ⟨fun pins s σ H Q I h => ?_⟩
  refine wpAny_Call_Name_kw (ld_glob I hg hm ?_ hdb)
  exact PySem.W.callWith_K0 I.kIn M.kp (run_makeSD (us := []) (vs := []) M F hr hb hd (hx σ) I .nil h)
theorem sp_make (Zr : Zx) (Wr : WX) {σ : L2.St} {G H : Hp} {vs : List V} {ds : List D} {R : VK} {n : Nat} (e0 : Same G0 G) (sl : Sl X.K G σ δ) (ok : Ok X.K G M H) (r : RepAll X.K G vs ds) (hn : ds.length + 1 = n)
    (h : ∀ x, M x = none → S (.obj x :: ds) (mset M x (some (.ins C []))) (fun _ M' => Q (.obj x) M') (fun cls fs M' => Zr cls fs δ M'))
    (hw : ∀ cls d fs δ M σ G H, Zr cls fs δ M → Same G0 G → Sl X.K G σ δ → Ok X.K G M H → RepX X.K G d fs → Wr cls d σ H) (hv : ∀ ds M' A Z, S ds M' A Z → S ds M' (fun d M2 => d = .non ∧ A d M2) Z) (q : ∀ d M' v G' H', Q d M' → Same G G' → Ok X.K G' M' H' → Rep X.K G' v d → R v H') :
    ∀ x dx, H x = none → H dx = none → dx ≠ x → spOf X.K n S (.ref x :: vs) (upd (upd H dx (.own x)) x (.ins C dx [])) (fun v H2 => v = .non ∧ R (.ref x) H2) (WE Wr σ) := fun x dx hx hdx ne => by
  have ok1 := ok.pad (o := .own x) hdx
  have hx1 : upd H dx (.own x) x = none := by rw [upd_ne (Ne.symm ne)]; exact hx
  have ok2 := ok1.laidM (o := .ins C dx []) (u := .ins C []) hx1 (.ins .nil)
  refine ⟨by simp [r.length, hn], G, _, _, _, _, .cons (.obj x) r, ok2, hv _ _ _ _ (h x (ok.free hx).2), fun d M' v G' H' hq e ok' rp => ?_, fun cls d fs M' G' H' z e ok' rx => hw cls d fs δ M' σ G' H' z (e0.trans e) (sl.mono e) ok' rx⟩
  obtain ⟨rfl, hq⟩ := hq
  cases rp
  exact ⟨rfl, q _ M' _ G' H' hq e ok' (.obj x)⟩
/-- an __init__ hands back None -/
def Nons (S : ASp) : Prop := ∀ ds M' A Z, S ds M' A Z → S ds M' (fun d M2 => d = .non ∧ A d M2) Z
theorem ew_make (Mk' : Mk X.K C f) (F : FnA X.prog X.w X.K X.mg X.base j f fd ps S) (hr : Room k X.A) (hjk : j + 1 ≤ k) (tz : TZ X G0 Z) (hm : X.mg x = some (.ref C)) (hb : Binds X.K fd ps []) (hv : Nons S)
    (h : AW X G0 (e :: es) δ M fun ds M1 => ds.length + 1 = ps.length ∧ ∀ x, M1 x = none → S (.obj x :: ds) (mset M1 x (some (.ins C []))) (fun _ M2 => Q (.obj x) M2) (fun cls fs M2 => Z cls fs δ M2))
    (hg : Gl X x := by rfl) (hdb : (x == ("__debug__" : Str)) = false := by decide) (he : starEach (e :: es) X.env = (false, eval e X.env) :: starEach es X.env := by rfl) (hpl : (backTo pos (starEach es X.env)).any (·.1) = false := by rfl) :
    EW X G0 (.Call (.Name x p) (e :: es) [] pos) δ M Q := by
  obtain ⟨W, tk, hw⟩ := tz
  refine EW.of (pe_makeSD Mk' F (hr.mono hjk) hg hm hb .nil (E := WE W) (fun σ => passAt tk σ) paS hdb he hpl) fun σ G H e0 sl ok R q => h σ G H e0 sl ok _ fun ds M1 vs G1 H1 h1 e1 ok1 r1 => ?_
  rw [List.append_nil]
  exact sp_make (Q := Q) Z W (e0.trans e1) (sl.mono e1) ok1 r1 h1.1 h1.2 hw hv fun d M' v G' H' h' e' => q d M' v G' H' h' (e1.trans e')
theorem ew_make0 (Mk' : Mk X.K C f) (F : FnA X.prog X.w X.K X.mg X.base j f fd ps S) (hr : Room k X.A) (hjk : j + 1 ≤ k) (tz : TZ X G0 Z) (hm : X.mg x = some (.ref C)) (hb : Binds X.K fd ps []) (hv : Nons S)
    (h : 1 = ps.length ∧ ∀ x, M x = none → S [.obj x] (mset M x (some (.ins C []))) (fun _ M2 => Q (.obj x) M2) (fun cls fs M2 => Z cls fs δ M2))
    (hg : Gl X x := by rfl) (hdb : (x == ("__debug__" : Str)) = false := by decide) : EW X G0 (.Call (.Name x p) [] [] pos) δ M Q := by
  obtain ⟨W, tk, hw⟩ := tz
  refine EW.of (pe_make0SD Mk' F (hr.mono hjk) hg hm hb .nil (E := WE W) (fun σ => passAt tk σ) hdb) fun σ G H e0 sl ok R q => ?_
  exact sp_make (Q := Q) (ds := []) Z W e0 sl ok .nil h.1 h.2 hw hv q
/-- what an expression gives stays as it is from now on -/
theorem ew_frz (h : EW X G0 e δ M fun d M' => ∃ p mo d', d = .obj p ∧ M' p = some mo ∧ Frz p mo d' ∧ Q d' (mset M' p none)) : EW X G0 e δ M Q := fun σ G H e0 sl ok R q => h σ G H e0 sl ok R fun d M1 v G1 H1 h1 e1 ok1 r1 => by
  obtain ⟨p, mo, d', rfl, hp, hf, hq⟩ := h1
  cases r1
  obtain ⟨g, o, ho, ro⟩ := ok1.mu p _ hp
  exact q d' _ _ _ H1 hq (e1.trans (same_new g)) (ok1.freeze ho g) (hf X.K G1 o g ro)
/-- o.g = e, o an instance that may change -/
theorem sw_fld {g : Str} (h : EW X G0 e δ M fun d M1 => EW X G0 o δ M1 fun od M2 => ∃ p C fs, od = .obj p ∧ M2 p = some (.ins C fs) ∧ Cls X.K C ∧ NoAttr X.K C g ∧ fs.length < 1000 ∧ E.nx δ (mset M2 p (some (.ins C (putA g d fs)))))
    (hs : swapsWith e (some (.Attribute o g pos')) pos.line X.env = pure false := by rfl) : SW X G0 (.Assign [.Attribute o g pos'] e pos) δ M E :=
  SW.of (ps_fld peS peS hs) fun σ G H e0 sl ok R k1 k2 k3 k4 => h σ G H e0 sl ok _ fun d M1 v1 G1 H1 h1 e1 ok1 r1 => h1 σ G1 H1 (e0.trans e1) (sl.mono e1) ok1 _ fun od M2 v2 G2 H2 h2 e2 ok2 r2 => by
    obtain ⟨p, C, fs, rfl, hp, c, na, hl, q⟩ := h2
    cases r2
    obtain ⟨g, o, ho, ro⟩ := ok2.mu p _ hp
    cases ro with
    | ins r => exact ⟨p, C, _, _, rfl, ho, c, na, by rw [r.length]; exact hl, k1 _ _ σ G2 _ q (e1.trans e2) (sl.mono (e1.trans e2)) (ok2.write hp (.ins (r.putA (r1.mono e2))))⟩

/-! ### calls of built-ins -/
def CA (K : PySem.W.Frag) (r : List V → Hp → VK → Prop) (ds : List D) (M : Mm) (Q : D → Mm → Prop) : Prop :=
  ∀ G H vs, Ok K G M H → RepAll K G vs ds → ∀ R : VK, (∀ d M' v G' H', Q d M' → Same G G' → Ok K G' M' H' → Rep K G' v d → R v H') → r vs H R
theorem ew_callB {id : String} {r : List V → Hp → VK → Prop} (hc : CallR X (.builtin id) r) (hm : X.mg x = none) (hv : bootBuiltins x = some (.builtin id)) (h : AW X G0 (e :: es) δ M fun ds M1 => CA X.K r ds M1 Q)
    (hg : Gl X x := by rfl) (hn : x ≠ "__name__" := by decide) (hdb : (x == ("__debug__" : Str)) = false := by decide)
    (he : starEach (e :: es) X.env = (false, eval e X.env) :: starEach es X.env := by rfl) (hpl : (backTo pos (starEach es X.env)).any (·.1) = false := by rfl) : EW X G0 (.Call (.Name x p) (e :: es) [] pos) δ M Q :=
  EW.of (pe_callB hc hg hm hv paS hn hdb he hpl) fun σ G H e0 sl ok R q => h σ G H e0 sl ok _ fun ds M1 vs G1 H1 h1 e1 ok1 r1 => h1 G1 H1 vs ok1 r1 R fun d M' v G' H' h' e' => q d M' v G' H' h' (e1.trans e')
theorem ew_callT {T : String} {r : List V → Hp → VK → Prop} (hc : CallR X (.type T) r) (hm : X.mg x = none) (hv : bootBuiltins x = some (.type T)) (h : AW X G0 (e :: es) δ M fun ds M1 => CA X.K r ds M1 Q)
    (hg : Gl X x := by rfl) (hn : x ≠ "__name__" := by decide) (hdb : (x == ("__debug__" : Str)) = false := by decide)
    (he : starEach (e :: es) X.env = (false, eval e X.env) :: starEach es X.env := by rfl) (hpl : (backTo pos (starEach es X.env)).any (·.1) = false := by rfl) : EW X G0 (.Call (.Name x p) (e :: es) [] pos) δ M Q :=
  EW.of (pe_callTy hc hg hm hv paS hn hdb he hpl) fun σ G H e0 sl ok R q => h σ G H e0 sl ok _ fun ds M1 vs G1 H1 h1 e1 ok1 r1 => h1 G1 H1 vs ok1 r1 R fun d M' v G' H' h' e' => q d M' v G' H' h' (e1.trans e')
section
variable {K : PySem.W.Frag} {i n : Int}
theorem ca_abs (h : Q (.int (if i < 0 then -i else i)) M) : CA K (fun xs H Q => ∃ i, xs = [.int i] ∧ Q (.int (if i < 0 then -i else i)) H) [.int i] M Q := fun G H vs ok r R q => by
  cases r with | cons h1 h2 => cases h1; cases h2; exact ⟨_, rfl, q _ _ _ _ _ h (Same.refl _) ok (.int _)⟩
theorem ca_int (h : Q (.int i) M) : CA K (fun xs H Q => (∃ i, xs = [.int i] ∧ Q (.int i) H) ∨ ∃ k, xs = [.bl k] ∧ Q (.int (if k then 1 else 0)) H) [.int i] M Q := fun G H vs ok r R q => by
  cases r with | cons h1 h2 => cases h1; cases h2; exact .inl ⟨_, rfl, q _ _ _ _ _ h (Same.refl _) ok (.int _)⟩
theorem ca_strI (hl : i.natAbs.log2 < 1920) (h : Q (.str (toString i : String)) M) : CA K (fun xs H Q => ∃ i : Int, xs = [.int i] ∧ i.natAbs.log2 < 1920 ∧ Q (.str (toString i : String)) H) [.int i] M Q := fun G H vs ok r R q => by
  cases r with | cons h1 h2 => cases h1; cases h2; exact ⟨_, rfl, hl, q _ _ _ _ _ h (Same.refl _) ok (.str _)⟩
/-- a list or a tuple, laid down or not -/
def IsSq (M : Mm) (d : D) (ds : List D) : Prop := d = .lst ds ∨ d = .tup ds ∨ (∃ p, d = .obj p ∧ M p = some (.lst ds)) ∨ d = .rl ds ∨ d = .rt ds
theorem isSq_at {G H : Hp} {d : D} {v : V} {ds : List D} (ok : Ok K G M H) (i : IsSq M d ds) (r : Rep K G v d) : ∃ a vs, v = .ref a ∧ (SqL K H a vs ∨ SqT K H a vs) ∧ RepAll K G vs ds := by
  rcases i with rfl | rfl | ⟨p, rfl, hp⟩ | rfl | rfl
  · cases r with | lst g r => exact ⟨_, _, rfl, .inl (SqL.of (ok.ex _ _ g)), r⟩
  · cases r with | tup g r => exact ⟨_, _, rfl, .inr (SqT.of (ok.ex _ _ g)), r⟩
  · cases r
    obtain ⟨g, o, ho, ro⟩ := ok.mu p _ hp
    cases ro with | lst r => exact ⟨_, _, rfl, .inl (SqL.of ho), r⟩
  · cases r with | rl g r => exact ⟨_, _, rfl, .inl (sqL_mono ok.ex g), r⟩
  · cases r with | rt g r => exact ⟨_, _, rfl, .inr (sqT_mono ok.ex g), r⟩
def IsLs (M : Mm) (d : D) (ds : List D) : Prop := d = .lst ds ∨ (∃ p, d = .obj p ∧ M p = some (.lst ds)) ∨ d = .rl ds
theorem isLs_at {G H : Hp} {d : D} {v : V} {ds : List D} (ok : Ok K G M H) (i : IsLs M d ds) (r : Rep K G v d) : ∃ a vs, v = .ref a ∧ SqL K H a vs ∧ RepAll K G vs ds := by
  rcases i with rfl | ⟨p, rfl, hp⟩ | rfl
  · cases r with | lst g r => exact ⟨_, _, rfl, SqL.of (ok.ex _ _ g), r⟩
  · cases r
    obtain ⟨g, o, ho, ro⟩ := ok.mu p _ hp
    cases ro with | lst r => exact ⟨_, _, rfl, SqL.of ho, r⟩
  · cases r with | rl g r => exact ⟨_, _, rfl, sqL_mono ok.ex g, r⟩
theorem ca_len {d : D} {ds : List D} (hd : IsSq M d ds) (h : Q (.int ds.length) M) : CA K (fun xs H Q => ∃ p ys, xs = [.ref p] ∧ (SqL K H p ys ∨ SqT K H p ys) ∧ Q (.int ys.length) H) [d] M Q := fun G H vs ok r R q => by
  cases r with
  | cons h1 h2 =>
    cases h2
    obtain ⟨a, ws, rfl, s, r⟩ := isSq_at ok hd h1
    exact ⟨a, ws, rfl, s, by rw [r.length]; exact q _ _ _ _ _ h (Same.refl _) ok (.int _)⟩
theorem ca_lenS {z : Str} (hz : z.length ≤ 1000000) (h : Q (.int z.length) M) : CA K (fun xs H Q => ∃ z, xs = [.str z] ∧ z.length ≤ sizeLine ∧ Q (.int z.length) H) [.str z] M Q := fun G H vs ok r R q => by
  cases r with | cons h1 h2 => cases h1; cases h2; exact ⟨_, rfl, line_of hz, q _ _ _ _ _ h (Same.refl _) ok (.int _)⟩
theorem repAll_ints {G : Hp} : ∀ {vs : List V} {ns : List Int}, RepAll K G vs (ns.map D.int) → vs = ns.map V.int
  | _, [], .nil => rfl
  | _, n :: ns, .cons h r => by cases h; rw [repAll_ints r]; rfl
theorem repAll_bls {G : Hp} : ∀ {vs : List V} {ns : List Bool}, RepAll K G vs (ns.map D.bl) → vs = ns.map V.bl
  | _, [], .nil => rfl
  | _, n :: ns, .cons h r => by cases h; rw [repAll_bls r]; rfl
theorem repAll_strs {G : Hp} : ∀ {vs : List V} {ns : List Str}, RepAll K G vs (ns.map D.str) → vs = ns.map V.str
  | _, [], .nil => rfl
  | _, n :: ns, .cons h r => by cases h; rw [repAll_strs r]; rfl
theorem ca_sum {d : D} {ns : List Int} (hd : IsLs M d (ns.map .int)) (h : Q (.int ns.sum) M) : CA K (rSum K) [d] M Q := fun G H vs ok r R q => by
  cases r with
  | cons h1 h2 =>
    cases h2
    obtain ⟨a, ws, rfl, s, r⟩ := isLs_at ok hd h1
    rw [repAll_ints r] at s
    exact ⟨a, ns, rfl, s, q _ _ _ _ _ h (Same.refl _) ok (.int _)⟩
theorem ca_all {d : D} {ns : List Bool} (hd : IsLs M d (ns.map .bl)) (h : Q (.bl (ns.all id)) M) : CA K (rAll K) [d] M Q := fun G H vs ok r R q => by
  cases r with
  | cons h1 h2 =>
    cases h2
    obtain ⟨a, ws, rfl, s, r⟩ := isLs_at ok hd h1
    rw [repAll_bls r] at s
    exact ⟨a, ns, rfl, s, q _ _ _ _ _ h (Same.refl _) ok (.bl _)⟩
theorem ca_any {d : D} {ns : List Bool} (hd : IsLs M d (ns.map .bl)) (h : Q (.bl (ns.any id)) M) : CA K (rAny K) [d] M Q := fun G H vs ok r R q => by
  cases r with
  | cons h1 h2 =>
    cases h2
    obtain ⟨a, ws, rfl, s, r⟩ := isLs_at ok hd h1
    rw [repAll_bls r] at s
    exact ⟨a, ns, rfl, s, q _ _ _ _ _ h (Same.refl _) ok (.bl _)⟩
theorem ca_list {d : D} {ds : List D} (hd : IsSq M d ds) (h : Q (.lst ds) M) : CA K (fun xs H Q => ∃ p ys, xs = [.ref p] ∧ (SqL K H p ys ∨ SqT K H p ys) ∧ ∀ l, H l = none → Q (.ref l) (upd H l (.lst ys))) [d] M Q := fun G H vs ok r R q => by
  cases r with
  | cons h1 h2 =>
    cases h2
    obtain ⟨a, ws, rfl, s, r⟩ := isSq_at ok hd h1
    refine ⟨a, ws, rfl, s, fun l hl => ?_⟩
    have hg := ok.free hl
    exact q _ _ _ _ _ h (same_new hg.1) (ok.laid hl) (.lst upd_same (r.mono (same_new hg.1)))
theorem ca_tuple {d : D} {ds : List D} (hd : d = .lst ds ∨ d = .tup ds ∨ (∃ p, d = .obj p ∧ M p = some (.lst ds)) ∨ d = .rl ds) (h : Q (.tup ds) M) : CA K (fun xs H Q => ∃ p ys, xs = [.ref p] ∧ ((SqL K H p ys ∧ ∀ l, H l = none → Q (.ref l) (upd H l (.tup ys))) ∨ (SqT K H p ys ∧ Q (.ref p) H))) [d] M Q := fun G H vs ok r R q => by
  cases r with
  | cons h1 h2 =>
    cases h2
    have lay : ∀ (a : Addr) (ws : List V), SqL K H a ws → RepAll K G ws ds → ∃ p ys, [V.ref a] = [.ref p] ∧ ((SqL K H p ys ∧ ∀ l, H l = none → R (.ref l) (upd H l (.tup ys))) ∨ (SqT K H p ys ∧ R (.ref p) H)) := fun a ws s r => by
      refine ⟨a, ws, rfl, .inl ⟨s, fun l hl => ?_⟩⟩
      have hg := ok.free hl
      exact q _ _ _ _ _ h (same_new hg.1) (ok.laid hl) (.tup upd_same (r.mono (same_new hg.1)))
    rcases hd with rfl | rfl | ⟨p, rfl, hp⟩ | rfl
    · cases h1 with | lst g r => exact lay _ _ (SqL.of (ok.ex _ _ g)) r
    · cases h1 with | tup g r => exact ⟨_, _, rfl, .inr ⟨SqT.of (ok.ex _ _ g), q _ _ _ _ _ h (Same.refl _) ok (.tup g r)⟩⟩
    · cases h1
      obtain ⟨g, o, ho, ro⟩ := ok.mu p _ hp
      cases ro with | lst r => exact lay _ _ (SqL.of ho) r
    · cases h1 with | rl g r => exact lay _ _ (sqL_mono ok.ex g) r
end

/-! ### methods of built-in types -/
def MA (K : PySem.W.Frag) (r : V → List V → Hp → VK → Prop) (d : D) (ds : List D) (M : Mm) (Q : D → Mm → Prop) : Prop :=
  ∀ G H v vs, Ok K G M H → Rep K G v d → RepAll K G vs ds → ∀ R : VK, (∀ d M' v G' H', Q d M' → Same G G' → Ok K G' M' H' → Rep K G' v d → R v H') → r v vs H R
/-- the receiver's built-in type -/
def IsTy (M : Mm) (T : String) (d : D) : Prop := (T = "list" ∧ ∃ ds, IsLs M d ds) ∨ (T = "str" ∧ ∃ z, d = .str z)
theorem isTy_at {K : PySem.W.Frag} {G H : Hp} {T : String} {d : D} {v : V} (ok : Ok K G M H) (i : IsTy M T d) (r : Rep K G v d) : tyV K T v H := by
  rcases i with ⟨rfl, ds, i⟩ | ⟨rfl, z, rfl⟩
  · obtain ⟨a, vs, rfl, s, _⟩ := isLs_at ok i r
    exact Or.inl ⟨rfl, _, s⟩
  · cases r
    exact rfl
theorem ew_bm {T id : String} {name : Str} {r : V → List V → Hp → VK → Prop} (pa : PlainAttrs T) (slot : Slot T name id) (hty : typeOf (.builtin id) = pure (.type "method_descriptor")) (hm : MtR X id r)
    (h : EW X G0 o δ M fun d M1 => IsTy M1 T d ∧ AW X G0 (e :: es) δ M1 fun ds M2 => MA X.K r d ds M2 Q)
    (hbase : attributeBase o name X.env (eval o X.env) = eval o X.env := by rfl)
    (hfew : ((backTo pos (starEach (e :: es) X.env)).all (fun x => !x.1) && (backToKw pos (keywordEach [] X.env)).all (fun x => x.1.isSome)
      && decide ((e :: es).length + ([] : List Keyword).length + (if ([] : List Keyword).isEmpty then 0 else 1) < 30)) = true := by rfl)
    (hline : (apos.endLine == pos.line) = true := by rfl) (hst : starEach (e :: es) X.env = (false, eval e X.env) :: starEach es X.env := by rfl) (hplain : (backTo pos (starEach es X.env)).any (·.1) = false := by rfl) : EW X G0 (.Call (.Attribute o name apos) (e :: es) [] pos) δ M Q :=
  EW.of (pe_bm pa slot hty hm peS paS hbase hfew hline hst hplain) fun σ G H e0 sl ok R q => h σ G H e0 sl ok _ fun d M1 v G1 H1 h1 e1 ok1 r1 => ⟨isTy_at ok1 h1.1 r1, h1.2 σ G1 H1 (e0.trans e1) (sl.mono e1) ok1 _ fun ds M2 vs G2 H2 h2 e2 ok2 r2 =>
    h2 G2 H2 v vs ok2 (r1.mono e2) r2 R fun d M' v G' H' h' e' => q d M' v G' H' h' (e1.trans (e2.trans e'))⟩
theorem ew_bm0 {T id : String} {name : Str} {r : V → List V → Hp → VK → Prop} (pa : PlainAttrs T) (slot : Slot T name id) (hty : typeOf (.builtin id) = pure (.type "method_descriptor")) (hm : MtR X id r)
    (h : EW X G0 o δ M fun d M1 => IsTy M1 T d ∧ MA X.K r d [] M1 Q)
    (hbase : attributeBase o name X.env (eval o X.env) = eval o X.env := by rfl) (hline : (apos.endLine == pos.line) = true := by rfl) : EW X G0 (.Call (.Attribute o name apos) [] [] pos) δ M Q :=
  EW.of (pe_bm0 pa slot hty hm peS hbase hline) fun σ G H e0 sl ok R q => h σ G H e0 sl ok _ fun d M1 v G1 H1 h1 e1 ok1 r1 => ⟨isTy_at ok1 h1.1 r1, h1.2 G1 H1 v [] ok1 r1 .nil R fun d M' v G' H' h' e' => q d M' v G' H' h' (e1.trans e')⟩
theorem ma_append {K : PySem.W.Frag} {p : Addr} {ds : List D} {d : D} (hp : M p = some (.lst ds)) (hl : ds.length ≤ 1000000) (h : Q .non (mset M p (some (.lst (ds ++ [d]))))) : MA K rAppend (.obj p) [d] M Q := fun G H v vs ok r1 r2 R q => by
  cases r1
  cases r2 with
  | cons r r' =>
    cases r'
    obtain ⟨g, o, ho, ro⟩ := ok.mu p _ hp
    cases ro with
    | lst ra => exact ⟨p, _, _, rfl, rfl, ho, by rw [ra.length]; exact line_lt hl, q _ _ _ _ _ h (Same.refl _) (ok.write hp (.lst (ra.append (.cons r .nil)))) .non⟩
theorem ma_popAt {K : PySem.W.Frag} {p : Addr} {ds : List D} {d : D} {i : Int} {k : Nat} (hp : M p = some (.lst ds)) (h1 : -(2 ^ 63) ≤ i) (h2 : i < 2 ^ 63) (hk : seqIndex? i ds.length = some k) (hd : ds[k]? = some d) (h : Q d (mset M p (some (.lst (ds.eraseIdx k))))) : MA K rPopAt (.obj p) [.int i] M Q := fun G H v vs ok r1 r2 R q => by
  cases r1
  cases r2 with
  | cons r r' =>
    cases r
    cases r'
    obtain ⟨g, o, ho, ro⟩ := ok.mu p _ hp
    cases ro with
    | lst ra =>
      obtain ⟨v, hv, rv⟩ := ra.get hd
      refine ⟨p, _, i, k, v, rfl, rfl, ho, h1, h2, by rw [ra.length]; exact hk, hv, q _ _ _ _ _ h (Same.refl _) (ok.write hp (.lst ?_)) rv⟩
      rw [List.eraseIdx_eq_take_drop_succ, List.eraseIdx_eq_take_drop_succ]
      exact (ra.take _).append (ra.drop _)

/-! ### dicts -/
def IsDk (M : Mm) (d : D) (kvs : List (Key × D)) : Prop := d = .dK kvs ∨ ∃ p, d = .obj p ∧ M p = some (.dK kvs)
theorem isDk_at {K : PySem.W.Frag} {G H : Hp} {d : D} {v : V} {kvs : List (Key × D)} (ok : Ok K G M H) (i : IsDk M d kvs) (r : Rep K G v d) : ∃ a vs, v = .ref a ∧ Rd H a (.dK vs) ∧ RepKV K G Key vs kvs := by
  rcases i with rfl | ⟨p, rfl, hp⟩
  · cases r with | dK g r => exact ⟨_, _, rfl, rd_mono ok.ex g, r⟩
  · cases r
    obtain ⟨g, o, ho, ro⟩ := ok.mu p _ hp
    cases ro with | dK r => exact ⟨_, _, rfl, .inl ho, r⟩
theorem rep_key {K : PySem.W.Frag} {G : Hp} {v : V} {k : Key} (r : Rep K G v (keyD k)) : v = kV k := by
  cases k <;> (cases r; rfl)
theorem ew_dget (hu : X.A.units + 1 < cLine) (hs : NoSl b) (h : EW X G0 a δ M fun d M1 => EW X G0 b δ M1 fun kd M2 => ∃ kvs k v, IsDk M2 d kvs ∧ keyOf kd = some k ∧ valD kvs k = some v ∧ Q v M2) : EW X G0 (.Subscript a b pos) δ M Q :=
  EW.of (pe_dget hu peS peS hs) fun σ G H e0 sl ok R q => h σ G H e0 sl ok _ fun d M1 v1 G1 H1 h1 e1 ok1 r1 => h1 σ G1 H1 (e0.trans e1) (sl.mono e1) ok1 _ fun kd M2 v2 G2 H2 h2 e2 ok2 r2 => by
    obtain ⟨kvs, k, v, hd, hk, hv, hq⟩ := h2
    cases keyOf_eq hk
    obtain ⟨a, vs, rfl, rd, rk⟩ := isDk_at ok2 hd (r1.mono e2)
    rcases rk.find (k := k) with ⟨z, _⟩ | ⟨d', v', z1, z2, z3⟩
    · rw [hv] at z; cases z
    · rw [hv] at z1; cases z1
      exact ⟨a, v', rfl, .inl ⟨vs, k, rd, rep_key r2, z2.symm⟩, q _ _ _ _ _ hq (e1.trans e2) ok2 z3⟩
theorem valD_isSome {α : Type} [DecidableEq α] {K : PySem.W.Frag} {G : Hp} {vs : List (α × V)} {ds : List (α × D)} (k : α) (r : RepKV K G α vs ds) : (valV vs k).isSome = (valD ds k).isSome := by
  rcases r.find (k := k) with ⟨h1, h2⟩ | ⟨d, v, h1, h2, _⟩
  · rw [h1, h2]; rfl
  · rw [h1, h2]; rfl
theorem et_din (h : EW X G0 a δ M fun kd M1 => EW X G0 b δ M1 fun d M2 => ∃ kvs k, IsDk M2 d kvs ∧ keyOf kd = some k ∧ Q (.bl (valD kvs k).isSome) M2) : ET X.K G0 (tDIn (tE X a) (tE X b)) δ M Q := fun σ G H e0 sl ok R q => h σ G H e0 sl ok _ fun kd M1 v1 G1 H1 h1 e1 ok1 r1 => h1 σ G1 H1 (e0.trans e1) (sl.mono e1) ok1 _ fun d M2 v2 G2 H2 h2 e2 ok2 r2 => by
  obtain ⟨kvs, k, hd, hk, hq⟩ := h2
  cases keyOf_eq hk
  obtain ⟨a, vs, rfl, rd, rk⟩ := isDk_at ok2 hd r2
  exact ⟨a, valV vs k, rfl, .inl ⟨vs, k, rd, rep_key (r1.mono e2), rfl⟩, by rw [valD_isSome k rk]; exact q _ _ _ _ _ hq (e1.trans e2) ok2 (.bl _)⟩
theorem et_dnotin (h : EW X G0 a δ M fun kd M1 => EW X G0 b δ M1 fun d M2 => ∃ kvs k, IsDk M2 d kvs ∧ keyOf kd = some k ∧ Q (.bl (!(valD kvs k).isSome)) M2) : ET X.K G0 (tDNotIn (tE X a) (tE X b)) δ M Q := fun σ G H e0 sl ok R q => h σ G H e0 sl ok _ fun kd M1 v1 G1 H1 h1 e1 ok1 r1 => h1 σ G1 H1 (e0.trans e1) (sl.mono e1) ok1 _ fun d M2 v2 G2 H2 h2 e2 ok2 r2 => by
  obtain ⟨kvs, k, hd, hk, hq⟩ := h2
  cases keyOf_eq hk
  obtain ⟨a, vs, rfl, rd, rk⟩ := isDk_at ok2 hd r2
  exact ⟨a, valV vs k, rfl, .inl ⟨vs, k, rd, rep_key (r1.mono e2), rfl⟩, by rw [valD_isSome k rk]; exact q _ _ _ _ _ hq (e1.trans e2) ok2 (.bl _)⟩
theorem tte_B {K : PySem.W.Frag} {t : TE} (h : ET K G0 t δ M fun d M' => ∃ b, d = .bl b ∧ QB b M') : TTe K G0 (tB t) δ M QB := fun σ G H e0 sl ok R k =>
  h σ G H e0 sl ok _ fun d M1 v1 G1 H1 h1 e1 ok1 r1 => by
    obtain ⟨b, rfl, q⟩ := h1
    cases r1
    exact ⟨b, rfl, k b M1 G1 H1 q e1 ok1⟩
theorem tw_din (hu : X.A.units + 1 < cLine) (h : EW X G0 a δ M fun kd M1 => EW X G0 b δ M1 fun d M2 => ∃ kvs k, IsDk M2 d kvs ∧ keyOf kd = some k ∧ QB (valD kvs k).isSome M2) (hm : behindInMarks .In b = false := by rfl) : TW X G0 (.Compare a [.In] [b] pos) δ M QB :=
  TW.of (pt_cmp (pc_din hu peS peS) hm) (tte_B (et_din (EW.mono h fun kd M1 h1 => EW.mono h1 fun d M2 ⟨kvs, k, h1, h2, h3⟩ => ⟨kvs, k, h1, h2, _, rfl, h3⟩)))
theorem tw_dnotin (hu : X.A.units + 1 < cLine) (h : EW X G0 a δ M fun kd M1 => EW X G0 b δ M1 fun d M2 => ∃ kvs k, IsDk M2 d kvs ∧ keyOf kd = some k ∧ QB (!(valD kvs k).isSome) M2) (hm : behindInMarks .NotIn b = false := by rfl) : TW X G0 (.Compare a [.NotIn] [b] pos) δ M QB :=
  TW.of (pt_cmp (pc_dnotin hu peS peS) hm) (tte_B (et_dnotin (EW.mono h fun kd M1 h1 => EW.mono h1 fun d M2 ⟨kvs, k, h1, h2, h3⟩ => ⟨kvs, k, h1, h2, _, rfl, h3⟩)))
theorem sw_dput (hu : X.A.units + 1 < cLine) (h : EW X G0 e δ M fun d M1 => EW X G0 a δ M1 fun od M2 => EW X G0 b δ M2 fun kd M3 => ∃ p kvs k, od = .obj p ∧ M3 p = some (.dK kvs) ∧ keyOf kd = some k ∧ kvs.length ≤ 1000000 ∧ E.nx δ (mset M3 p (some (.dK (putD kvs k d)))))
    (hs : swapsWith e (some (.Subscript a b pos')) pos.line X.env = pure false := by rfl) : SW X G0 (.Assign [.Subscript a b pos'] e pos) δ M E :=
  SW.of (ps_dput hu peS peS peS hs) fun σ G H e0 sl ok R k1 k2 k3 k4 => h σ G H e0 sl ok _ fun d M1 v1 G1 H1 h1 e1 ok1 r1 => h1 σ G1 H1 (e0.trans e1) (sl.mono e1) ok1 _ fun od M2 v2 G2 H2 h2 e2 ok2 r2 =>
    h2 σ G2 H2 (e0.trans (e1.trans e2)) (sl.mono (e1.trans e2)) ok2 _ fun kd M3 v3 G3 H3 h3 e3 ok3 r3 => by
      obtain ⟨p, kvs, k, rfl, hp, hk, hl, q⟩ := h3
      cases keyOf_eq hk
      cases r2
      obtain ⟨g, o, ho, ro⟩ := ok3.mu p _ hp
      cases ro with
      | dK r => exact ⟨p, _, rfl, .inl ⟨_, k, ho, rep_key r3, by rw [r.length]; exact line_lt hl, rfl⟩, k1 δ _ σ G3 _ q (e1.trans (e2.trans e3)) (sl.mono (e1.trans (e2.trans e3))) (ok3.write hp (.dK (r.put (r1.mono (e2.trans e3)))))⟩
/-- the pairs of a display -/
def PWs (X : Cx) (G0 : Hp) (δ : Dl) : List (Option Expr) → List Expr → Mm → (List (D × D) → Mm → Prop) → Prop
  | some k :: ks, v :: vs, M, Q => EW X G0 k δ M fun kd M1 => EW X G0 v δ M1 fun vd M2 => PWs X G0 δ ks vs M2 fun r M3 => Q ((kd, vd) :: r) M3
  | _, _, M, Q => Q [] M
def trsOf (X : Cx) : List (Option Expr) → List Expr → List (TE × TE)
  | some k :: ks, v :: vs => (tE X k, tE X v) :: trsOf X ks vs
  | _, _ => []
theorem ppsS {pos : Pos} : ∀ {keys : List (Option Expr)} {values : List Expr}, keys.all (·.isSome) = true → keys.length = values.length → PPs X pos keys values (trsOf X keys values)
  | [], [], _, _ => pps_nil
  | some k :: ks, v :: vs, h, hl => pps_cons peS peS (ppsS (by simpa using h) (by simpa using hl))
  | none :: ks, _, h, _ => by simp at h
  | [], _ :: _, _, hl => by simp at hl
  | some _ :: _, [], _, hl => by simp at hl
inductive RepPs (K : PySem.W.Frag) (G : Hp) : List (V × V) → List (D × D) → Prop
  | nil : RepPs K G [] []
  | cons {k v : V} {kd vd : D} {vs : List (V × V)} {ds : List (D × D)} : Rep K G k kd → Rep K G v vd → RepPs K G vs ds → RepPs K G ((k, v) :: vs) ((kd, vd) :: ds)
theorem pws_run : ∀ {keys : List (Option Expr)} {values : List Expr} {M : Mm} {Qp : List (D × D) → Mm → Prop}, PWs X G0 δ keys values M Qp → ∀ {σ : L2.St} {G H : Hp}, Same G0 G → Sl X.K G σ δ → Ok X.K G M H →
    ∀ R : List (V × V) → Hp → Prop, (∀ ds M' vs G' H', Qp ds M' → Same G G' → Ok X.K G' M' H' → RepPs X.K G' vs ds → R vs H') → tPairs (trsOf X keys values) σ H R
  | [], _, M, Qp, h, σ, G, H, e0, sl, ok, R, k => by
    unfold PWs at h
    exact k _ M [] G H h (Same.refl _) ok .nil
  | some ke :: ks, v :: vs, M, Qp, h, σ, G, H, e0, sl, ok, R, k => by
    unfold PWs at h
    unfold trsOf
    exact h σ G H e0 sl ok _ fun kd M1 v1 G1 H1 h1 e1 ok1 r1 => h1 σ G1 H1 (e0.trans e1) (sl.mono e1) ok1 _ fun vd M2 v2 G2 H2 h2 e2 ok2 r2 =>
      pws_run h2 (e0.trans (e1.trans e2)) (sl.mono (e1.trans e2)) ok2 _ fun ds M3 ws G3 H3 h3 e3 ok3 r3 => k _ M3 _ G3 H3 h3 (e1.trans (e2.trans e3)) ok3 (.cons (r1.mono (e2.trans e3)) (r2.mono e3) r3)
  | none :: ks, _, M, Qp, h, σ, G, H, e0, sl, ok, R, k => by
    unfold PWs at h
    exact k _ M [] G H h (Same.refl _) ok .nil
  | some _ :: _, [], M, Qp, h, σ, G, H, e0, sl, ok, R, k => by
    unfold PWs at h
    exact k _ M [] G H h (Same.refl _) ok .nil
def mergeD (kvs more : List (Key × D)) : List (Key × D) := more.foldl (fun acc kv => putD acc kv.1 kv.2) kvs
theorem repPs_keys {K : PySem.W.Frag} {G : Hp} : ∀ {vs : List (V × V)} {kds : List (Key × D)}, RepPs K G vs (kds.map fun kv => (keyD kv.1, kv.2)) → ∃ kvs : List (Key × V), vs = kvs.map (fun kv => (kV kv.1, kv.2)) ∧ RepKV K G Key kvs kds
  | _, [], .nil => ⟨[], rfl, .nil⟩
  | _, (k, d) :: r, .cons h1 h2 h3 => by
    obtain ⟨kvs, e, rk⟩ := repPs_keys h3
    exact ⟨(k, _) :: kvs, by rw [rep_key h1, e]; rfl, .cons h2 rk⟩
theorem RepKV.merge {K : PySem.W.Frag} {G : Hp} : ∀ {more : List (Key × V)} {ms : List (Key × D)} {kvs : List (Key × V)} {ds : List (Key × D)}, RepKV K G Key more ms → RepKV K G Key kvs ds → RepKV K G Key (mergeK kvs more) (mergeD ds ms)
  | _, _, _, _, .nil, s => s
  | _, _, _, _, .cons h r, s => by
    unfold mergeK mergeD
    simp only [List.foldl_cons]
    exact RepKV.merge r (s.put h)
/-- {k: v, ..}: a dict that may change -/
theorem ew_disp {keys : List (Option Expr)} {values : List Expr} (h : ∀ p, M p = none → PWs X G0 δ keys values (mset M p (some (.dK []))) fun ps M2 => M2 p = some (.dK []) ∧ ∃ kvs : List (Key × D), ps = kvs.map (fun kv => (keyD kv.1, kv.2)) ∧ kvs.length ≤ 15 ∧ Q (.obj p) (mset M2 p (some (.dK (mergeD [] kvs)))))
    (hall : keys.all (·.isSome) = true := by rfl) (hl : keys.length = values.length := by rfl) (h0 : keys ≠ [] := by intro z; cases z) (h15 : keys.length ≤ 15 := by decide) : EW X G0 (.Dict keys values pos) δ M Q :=
  EW.of (pe_disp (ppsS hall hl) hall hl h0 h15) fun σ G H e0 sl ok R q => fun p hp => by
    have hg := ok.free hp
    refine pws_run (h p hg.2) e0 sl (ok.laidM hp (.dK .nil)) _ fun ds M2 vs G2 H2 h2 e2 ok2 r2 => ?_
    obtain ⟨h2, kvs, rfl, h15, hq⟩ := h2
    obtain ⟨g, o, ho, ro⟩ := ok2.mu p _ h2
    cases ro with
    | dK r =>
      cases r
      obtain ⟨kv, rfl, rk⟩ := repPs_keys r2
      refine ⟨ho, kv, rfl, by rw [rk.length]; exact h15, q _ _ _ _ _ hq e2 (ok2.write h2 (.dK (rk.merge .nil))) (.obj p)⟩
/-- {}: a dict that may change -/
theorem ew_dnew (h : ∀ p, M p = none → Q (.obj p) (mset M p (some (.dK [])))) : EW X G0 (.Dict [] [] pos) δ M Q :=
  EW.of pe_dnewK fun σ G H e0 sl ok R q => fun p hp => by
    have hg := ok.free hp
    exact q _ _ _ _ _ (h p hg.2) (Same.refl _) (ok.laidM hp (.dK .nil)) (.obj p)
theorem ew_dnewT (h : ∀ p, M p = none → Q (.obj p) (mset M p (some (.dT [])))) : EW X G0 (.Dict [] [] pos) δ M Q :=
  EW.of pe_dnewT fun σ G H e0 sl ok R q => fun p hp => by
    have hg := ok.free hp
    exact q _ _ _ _ _ (h p hg.2) (Same.refl _) (ok.laidM hp (.dT .nil)) (.obj p)
end
end Aw
namespace Aw
open PySem PySem.Spec PyProof.Rows L2

/-! ### what is walked -/
abbrev Wq := Nat → (Nat → D → Prop) → (Mm → Prop) → Mm → Prop
def IWt (K : PySem.W.Frag) (G0 : Hp) (t : TI) (δ : Dl) (M : Mm) (Q : Wq) : Prop :=
  ∀ σ G H, Same G0 G → Sl K G σ δ → Ok K G M H → ∀ R : It → Hp → Prop,
    (∀ n it Cnd M' J Gd Y G' H', Q n it Cnd M' → Walk J n Gd Y → Same G G' → Ok K G' M' H' →
      (∀ G2 M2 H2, Same G' G2 → Ok K G2 M2 H2 → Cnd M2 → Gd H2) →
      (∀ i G2 M2 H2 x H3, i < n → Same G' G2 → Ok K G2 M2 H2 → Cnd M2 → Y i H2 x H3 → ∃ d G3, it i d ∧ Same G2 G3 ∧ Ok K G3 M2 H3 ∧ Rep K G3 x d) → R J H') → t σ H R
def tI (X : Cx) (tg iter : Expr) : TI := fun σ H R => ∀ pins s, Inv X pins σ H s → wpAny (model X.prog X.w) X.A (eval iter X.env) (fun v s1 => wpAny (model X.prog X.w) X.A (pyIter v) (PIE X pins σ tg R) X.xe s1) X.xe s
theorem piS {X : Cx} {tg iter : Expr} : PI X tg iter (tI X tg iter) := ⟨fun pins s σ H Q I h => h pins s I⟩
def IW (X : Cx) (G0 : Hp) (tg iter : Expr) (δ : Dl) (M : Mm) (Q : Wq) : Prop := IWt X.K G0 (tI X tg iter) δ M Q
theorem IW.of {X : Cx} {G0 : Hp} {δ : Dl} {M : Mm} {tg iter : Expr} {Q : Wq} {t : TI} (h : PI X tg iter t) (q : IWt X.K G0 t δ M Q) : IW X G0 tg iter δ M Q := fun σ G H e0 sl ok R k pins s I => h.run pins s σ H R I (q σ G H e0 sl ok R k)
/-- a list that stands in what may change, as it stands at each turn -/
theorem walk_listM {K : PySem.W.Frag} {a : Addr} {n : Nat} : Walk (Itl K a) n (fun H => ∃ vs, SqL K H a vs ∧ vs.length = n) (fun i H x H' => H' = H ∧ ∀ vs, SqL K H a vs → vs[i]? = some x) :=
  ⟨fun i _ hi ⟨vs, q, l⟩ => ⟨vs, vs[i], q, by simp [l, hi]⟩, fun _ ⟨vs, q, l⟩ => ⟨vs, q, by omega⟩, fun _ _ _ _ _ _ y => y⟩
section
variable {X : Cx} {G0 : Hp} {δ : Dl} {M : Mm} {tg e a b c : Expr} {es : List Expr} {Q : Wq} {p pos : Pos}
theorem iw_lst (h : EW X G0 e δ M fun d M1 => ∃ ds, d = .lst ds ∧ Q ds.length (fun i x => ds[i]? = some x) (fun _ => True) M1) : IW X G0 tg e δ M Q :=
  IW.of (pi_list peS) fun σ G H e0 sl ok R k => h σ G H e0 sl ok _ fun d M1 v G1 H1 h1 e1 ok1 r1 => by
    obtain ⟨ds, rfl, q⟩ := h1
    cases r1 with
    | lst s r =>
      refine ⟨_, rfl, ⟨_, SqL.of (ok1.ex _ _ s)⟩, k _ _ _ M1 _ _ _ G1 H1 q (by rw [← r.length]; exact walk_list) e1 ok1 (fun G2 M2 H2 e2 ok2 _ => SqL.of (ok2.ex _ _ (e2 _ _ s))) fun i G2 M2 H2 x H3 hi e2 ok2 _ y => ?_⟩
      obtain ⟨rfl, hx⟩ := y
      obtain ⟨d, hd, rd⟩ := r.getV hx
      exact ⟨d, G2, hd, Same.refl _, ok2, rd.mono e2⟩
theorem iw_lstM (h : EW X G0 e δ M fun d M1 => ∃ p ds, d = .obj p ∧ M1 p = some (.lst ds) ∧ Q ds.length (fun i x => ds[i]? = some x) (fun M' => M' p = some (.lst ds)) M1) : IW X G0 tg e δ M Q :=
  IW.of (pi_list peS) fun σ G H e0 sl ok R k => h σ G H e0 sl ok _ fun d M1 v G1 H1 h1 e1 ok1 r1 => by
    obtain ⟨p, ds, rfl, hp, q⟩ := h1
    cases r1
    have look : ∀ G2 M2 H2, Ok X.K G2 M2 H2 → M2 p = some (.lst ds) → ∃ vs, SqL X.K H2 p vs ∧ RepAll X.K G2 vs ds := fun G2 M2 H2 ok2 h2 => by
      obtain ⟨g, o, ho, ro⟩ := ok2.mu p _ h2
      cases ro with | lst r => exact ⟨_, SqL.of ho, r⟩
    obtain ⟨vs, s, r⟩ := look G1 M1 H1 ok1 hp
    refine ⟨_, rfl, ⟨_, s⟩, k _ _ _ M1 _ _ _ G1 H1 q (walk_listM (n := ds.length)) e1 ok1 (fun G2 M2 H2 e2 ok2 h2 => ?_) fun i G2 M2 H2 x H3 hi e2 ok2 h2 y => ?_⟩
    · obtain ⟨vs, s, r⟩ := look G2 M2 H2 ok2 h2
      exact ⟨vs, s, r.length⟩
    · obtain ⟨rfl, hx⟩ := y
      obtain ⟨vs, s, r⟩ := look G2 M2 H3 ok2 h2
      obtain ⟨d, hd, rd⟩ := r.getV (hx vs s)
      exact ⟨d, G2, hd, Same.refl _, ok2, rd⟩
theorem iw_tup (h : EW X G0 e δ M fun d M1 => ∃ ds, d = .tup ds ∧ Q ds.length (fun i x => ds[i]? = some x) (fun _ => True) M1) : IW X G0 tg e δ M Q :=
  IW.of (pi_tup peS) fun σ G H e0 sl ok R k => h σ G H e0 sl ok _ fun d M1 v G1 H1 h1 e1 ok1 r1 => by
    obtain ⟨ds, rfl, q⟩ := h1
    cases r1 with
    | tup s r =>
      refine ⟨_, rfl, ⟨_, SqT.of (ok1.ex _ _ s)⟩, k _ _ _ M1 _ _ _ G1 H1 q (by rw [← r.length]; exact walk_tup) e1 ok1 (fun G2 M2 H2 e2 ok2 _ => SqT.of (ok2.ex _ _ (e2 _ _ s))) fun i G2 M2 H2 x H3 hi e2 ok2 _ y => ?_⟩
      obtain ⟨rfl, hx⟩ := y
      obtain ⟨d, hd, rd⟩ := r.getV hx
      exact ⟨d, G2, hd, Same.refl _, ok2, rd.mono e2⟩
/-- the script, a list of the text's own -/
theorem iw_rl (h : EW X G0 e δ M fun d M1 => ∃ ds, d = .rl ds ∧ Q ds.length (fun i x => ds[i]? = some x) (fun _ => True) M1) : IW X G0 tg e δ M Q :=
  IW.of (pi_list peS) fun σ G H e0 sl ok R k => h σ G H e0 sl ok _ fun d M1 v G1 H1 h1 e1 ok1 r1 => by
    obtain ⟨ds, rfl, q⟩ := h1
    cases r1 with
    | rl s r =>
      refine ⟨_, rfl, ⟨_, sqL_mono ok1.ex s⟩, k _ _ _ M1 _ _ _ G1 H1 q (by rw [← r.length]; exact walk_list) e1 ok1 (fun G2 M2 H2 e2 ok2 _ => sqL_mono ok2.ex (sqL_mono e2 s)) fun i G2 M2 H2 x H3 hi e2 ok2 _ y => ?_⟩
      obtain ⟨rfl, hx⟩ := y
      obtain ⟨d, hd, rd⟩ := r.getV hx
      exact ⟨d, G2, hd, Same.refl _, ok2, rd.mono e2⟩
theorem iw_rng1 (hm : X.mg "range" = none) (h : EW X G0 a δ M fun d M1 => ∃ n : Int, d = .int n ∧ n ≤ 1000000000 ∧ -1000000000 ≤ n ∧ Q n.toNat (fun i x => x = .int i) (fun _ => True) M1) (hg : Gl X "range" := by rfl) (hs : starEach [a] X.env = [(false, eval a X.env)] := by rfl) :
    IW X G0 tg (.Call (.Name "range" p) [a] [] pos) δ M Q :=
  IW.of (pi_range1 hg hm (pa_cons peS pa_nil (hs.trans rfl)) hs) fun σ G H e0 sl ok R k => h σ G H e0 sl ok _ fun d M1 v G1 H1 h1 e1 ok1 r1 => by
    obtain ⟨n, rfl, hn, hn2, q⟩ := h1
    cases r1
    refine ⟨n, rfl, by omega, by omega, k _ _ _ M1 _ _ _ G1 H1 q walk_range e1 ok1 (fun _ _ _ _ _ _ => trivial) fun i G2 M2 H2 x H3 hi e2 ok2 _ y => ?_⟩
    obtain ⟨rfl, rfl⟩ := y
    refine ⟨_, G2, rfl, Same.refl _, ok2, ?_⟩
    show Rep X.K G2 (.int (0 + (i : Int))) _
    rw [Int.zero_add]
    exact .int _
theorem iw_rng2 (hm : X.mg "range" = none) (h : EW X G0 a δ M fun d M1 => EW X G0 b δ M1 fun d2 M2 => ∃ i n : Int, d = .int i ∧ d2 = .int n ∧ (n ≤ 1000000000 ∧ -1000000000 ≤ n ∧ i ≤ 1000000000 ∧ -1000000000 ≤ i) ∧ Q (n - i).toNat (fun j x => x = .int (i + j)) (fun _ => True) M2) (hg : Gl X "range" := by rfl)
    (hs : starEach [a, b] X.env = [(false, eval a X.env), (false, eval b X.env)] := by rfl) (hs2 : starEach [b] X.env = [(false, eval b X.env)] := by rfl) : IW X G0 tg (.Call (.Name "range" p) [a, b] [] pos) δ M Q :=
  IW.of (pi_range2 hg hm (pa_cons peS (pa_cons peS pa_nil (hs2.trans rfl)) (by rw [hs, hs2])) hs hs2) fun σ G H e0 sl ok R k => h σ G H e0 sl ok _ fun d M1 v G1 H1 h1 e1 ok1 r1 => h1 σ G1 H1 (e0.trans e1) (sl.mono e1) ok1 _ fun d2 M2 v2 G2 H2 h2 e2 ok2 r2 => by
    obtain ⟨i, n, rfl, rfl, hn, q⟩ := h2
    cases r1
    cases r2
    refine ⟨i, n, rfl, by omega, k _ _ _ M2 _ _ _ G2 H2 q walk_range (e1.trans e2) ok2 (fun _ _ _ _ _ _ => trivial) fun i G2 M2 H2 x H3 hi e2 ok2 _ y => ?_⟩
    obtain ⟨rfl, rfl⟩ := y
    exact ⟨_, G2, rfl, Same.refl _, ok2, .int _⟩
theorem iw_str (h : EW X G0 e δ M fun d M1 => ∃ z, d = .str z ∧ Q z.cps.size (fun i x => ∃ c, z.cps[i]? = some c ∧ x = .str ⟨#[c]⟩) (fun _ => True) M1) : IW X G0 tg e δ M Q :=
  IW.of (pi_str peS) fun σ G H e0 sl ok R k => h σ G H e0 sl ok _ fun d M1 v G1 H1 h1 e1 ok1 r1 => by
    obtain ⟨z, rfl, q⟩ := h1
    cases r1
    refine ⟨z, rfl, k _ _ _ M1 _ _ _ G1 H1 q walk_str e1 ok1 (fun _ _ _ _ _ _ => trivial) fun i G2 M2 H2 x H3 hi e2 ok2 _ y => ?_⟩
    obtain ⟨rfl, c, hc, rfl⟩ := y
    exact ⟨_, G2, ⟨c, hc, rfl⟩, Same.refl _, ok2, .str _⟩
/-- for i, x in enumerate(list) -/
theorem iw_enum {elts : List Expr} {kk : Nat} {tpos : Pos} (hm : X.mg "enumerate" = none) (h : EW X G0 e δ M fun d M1 => ∃ ds, d = .lst ds ∧ Q ds.length (fun i x => ∃ y, ds[i]? = some y ∧ x = .tup [.int i, y]) (fun _ => True) M1) (hg : Gl X "enumerate" := by rfl) (hs : starEach [e] X.env = [(false, eval e X.env)] := by rfl) :
    IW X G0 (.Tuple elts kk tpos) (.Call (.Name "enumerate" p) [e] [] pos) δ M Q :=
  IW.of (pi_enum hg hm (pa_cons peS pa_nil (hs.trans rfl)) hs) fun σ G H e0 sl ok R k => h σ G H e0 sl ok _ fun d M1 v G1 H1 h1 e1 ok1 r1 => by
    obtain ⟨ds, rfl, q⟩ := h1
    cases r1 with
    | lst s r =>
      refine ⟨_, _, rfl, SqL.of (ok1.ex _ _ s), k _ _ _ M1 _ _ _ G1 H1 q (by rw [← r.length]; exact walk_enum) e1 ok1 (fun G2 M2 H2 e2 ok2 _ => SqL.of (ok2.ex _ _ (e2 _ _ s))) fun i G2 M2 H2 x H3 hi e2 ok2 _ y => ?_⟩
      obtain ⟨T, x, y, rfl, hT, rfl, h1, h2⟩ := y
      cases h1
      obtain ⟨d, hd, rd⟩ := r.getV h2
      have hg := ok2.free hT
      exact ⟨_, _, ⟨d, hd, rfl⟩, same_new hg.1, ok2.laid hT, .tup upd_same (.cons (.int _) (.cons (rd.mono (e2.trans (same_new hg.1))) .nil))⟩
end

/-! ### targets -/
section
variable {X : Cx} {G0 : Hp} {δ : Dl} {M : Mm} {tg e a b c : Expr} {es : List Expr} {p pos : Pos} {x : Str} {Q : Dl → Mm → Prop}
def tGt (X : Cx) (tg : Expr) : TG := fun v σ H Q => ∀ pins s u, Inv X pins σ H s → RelV v u → wpAny (model X.prog X.w) X.A (assign tg X.env u) (fun _ s' => ∃ σ' H', Inv X pins σ' H' s' ∧ Q σ' H') X.xe s
def tGts (X : Cx) (ts : List Expr) : TGs := fun vs σ H Q => ∀ pins s us, Inv X pins σ H s → Vals vs us → wpAny (model X.prog X.w) X.A (assignInOrder ((assignEach ts X.env).map (·.2)) us) (fun _ s' => ∃ σ' H', Inv X pins σ' H' s' ∧ Q σ' H') X.xe s
theorem pgS : PG X tg (tGt X tg) := ⟨fun pins s σ H v u Q I r h => h pins s u I r⟩
theorem pgsS : PGs X es (tGts X es) := ⟨fun pins s σ H v u Q I r h => h pins s u I r⟩
def GTt (K : PySem.W.Frag) (G0 : Hp) (t : TG) (d : D) (δ : Dl) (M : Mm) (Q : Dl → Mm → Prop) : Prop :=
  ∀ σ G H v, Same G0 G → Sl K G σ δ → Ok K G M H → Rep K G v d → ∀ R : L2.St → Hp → Prop, (∀ δ' M' σ' G' H', Q δ' M' → Same G G' → Sl K G' σ' δ' → Ok K G' M' H' → R σ' H') → t v σ H R
def GTs (K : PySem.W.Frag) (G0 : Hp) (t : TGs) (ds : List D) (δ : Dl) (M : Mm) (Q : Dl → Mm → Prop) : Prop :=
  ∀ σ G H vs, Same G0 G → Sl K G σ δ → Ok K G M H → RepAll K G vs ds → ∀ R : L2.St → Hp → Prop, (∀ δ' M' σ' G' H', Q δ' M' → Same G G' → Sl K G' σ' δ' → Ok K G' M' H' → R σ' H') → t vs σ H R
def GW (X : Cx) (G0 : Hp) (tg : Expr) (d : D) (δ : Dl) (M : Mm) (Q : Dl → Mm → Prop) : Prop := GTt X.K G0 (tGt X tg) d δ M Q
def GWs (X : Cx) (G0 : Hp) (ts : List Expr) (ds : List D) (δ : Dl) (M : Mm) (Q : Dl → Mm → Prop) : Prop := GTs X.K G0 (tGts X ts) ds δ M Q
theorem GW.of {t : TG} {d : D} (h : PG X tg t) (q : GTt X.K G0 t d δ M Q) : GW X G0 tg d δ M Q := fun σ G H v e0 sl ok r R k pins s u I ru => h.run pins s σ H v u R I ru (q σ G H v e0 sl ok r R k)
theorem GWs.of {t : TGs} {ds : List D} (h : PGs X es t) (q : GTs X.K G0 t ds δ M Q) : GWs X G0 es ds δ M Q := fun σ G H v e0 sl ok r R k pins s u I ru => h.run pins s σ H v u R I ru (q σ G H v e0 sl ok r R k)
theorem gw_name (i : Nat) {d : D} (hN : X.N.Nodup) (h : Q (δ.set i (some d)) M) (hi : X.N[i]? = some x := by rfl) (hx : Loc X.env.scope x := by first | exact Or.inl rfl | exact Or.inr rfl) (hf : X.fn x = true ∨ X.env.scope.names.lookup x = some .local := by first | exact .inl rfl | exact .inr rfl) : GW X G0 (.Name x pos) d δ M Q :=
  GW.of (pg_name hN hi hx hf) fun σ G H v e0 sl ok r R k => k _ M _ G H h (Same.refl _) (sl.set r) ok
theorem gws_nil (h : Q δ M) : GWs X G0 [] [] δ M Q := GWs.of pgs_nil fun σ G H v e0 sl ok r R k => by
  cases r
  exact ⟨rfl, k _ M _ G H h (Same.refl _) sl ok⟩
theorem gws_cons {d : D} {ds : List D} (h : GW X G0 e d δ M fun δ' M' => GWs X G0 es ds δ' M' Q) (hs : (assignEach (e :: es) X.env).map (·.2) = assign e X.env :: (assignEach es X.env).map (·.2) := by rfl) : GWs X G0 (e :: es) (d :: ds) δ M Q :=
  GWs.of (pgs_cons pgS pgsS hs) fun σ G H v e0 sl ok r R k => by
    cases r with
    | cons r1 r2 => exact ⟨_, _, rfl, h σ G H _ e0 sl ok r1 _ fun δ' M' σ' G' H' h' e' sl' ok' => h' σ' G' H' _ (e0.trans e') sl' ok' (r2.mono e') R fun δ2 M2 σ2 G2 H2 h2 e2 => k δ2 M2 σ2 G2 H2 h2 (e'.trans e2)⟩
theorem gw_tup {kk : Nat} {ds : List D} (hl : ds.length = es.length) (h : GWs X G0 es ds δ M Q) (hc : X.calm = true := by rfl) (hn : (assignEach es X.env).length = es.length := by rfl) (hst : (assignEach es X.env).findIdx? (·.1) = none := by rfl) : GW X G0 (.Tuple es kk pos) (.tup ds) δ M Q :=
  GW.of (pg_tup hc pgsS hn hst) fun σ G H v e0 sl ok r R k => by
    cases r with
    | tup s r => exact ⟨_, _, rfl, SqT.of (ok.ex _ _ s), by rw [r.length, hl], h σ G H _ e0 sl ok r R k⟩
/-- a, b = e -/
theorem sw_asg {E : En} (h : EW X G0 e δ M fun d M1 => GW X G0 tg d δ M1 E.nx) (hs : swapsWithSole [tg] e pos.line X.env = pure false := by rfl) (hw : swappedStores [tg] e X.env = pure none := by rfl)
    (h1 : (assignEach [tg] X.env).map (·.2) = [assign tg X.env] := by rfl) : SW X G0 (.Assign [tg] e pos) δ M E :=
  SW.of (ps_asg peS pgS hs hw h1) fun σ G H e0 sl ok R k1 k2 k3 k4 => h σ G H e0 sl ok _ fun d M1 v G1 H1 h1 e1 ok1 r1 => h1 σ G1 H1 v (e0.trans e1) (sl.mono e1) ok1 r1 _ fun δ' M' σ' G' H' h' e' => k1 δ' M' σ' G' H' h' (e1.trans e')

/-! ### loops -/
variable {E : En} {body : List Stmt} {iter : Expr}
theorem sw_for (h : IW X G0 tg iter δ M fun n it Cnd M1 => ∃ I : Nat → Dl → Mm → Prop, I 0 δ M1 ∧ (∀ i δ' M', i ≤ n → I i δ' M' → Cnd M') ∧
      (∀ i δ' M' d, i < n → it i d → I i δ' M' → GW X G0 tg d δ' M' fun δ2 M2 => SWs X G0 body δ2 M2 { nx := I (i + 1), ct := I (i + 1), bk := E.nx, rt := E.rt }) ∧ (∀ δ' M', I n δ' M' → E.nx δ' M'))
    (hp : PassesOwn (model X.prog X.w) X.A X.env X.xe) (hc : X.calm = true := by rfl) (hs : ∀ x, foldedSetIterable iter X.env x = pure x := by intro _; rfl) : SW X G0 (.For tg iter body [] pos) δ M E :=
  SW.of (ps_for hp hc piS pgS pssS hs) fun σ G H e0 sl ok R k1 k2 k3 k4 => h σ G H e0 sl ok _ fun n it Cnd M1 J Gd Y G1 H1 h1 w e1 ok1 hgd hy => by
    obtain ⟨I, i0, ic, is, ie⟩ := h1
    refine for_it w (fun i σ' H' => ∃ δ' M' G', I i δ' M' ∧ Same G1 G' ∧ Sl X.K G' σ' δ' ∧ Ok X.K G' M' H') ⟨δ, M1, G1, i0, Same.refl _, sl.mono e1, ok1⟩ (fun i σ' H' hi ⟨δ', M', G', q, e2, sl2, ok2⟩ => hgd G' M' H' e2 ok2 (ic i δ' M' hi q)) ?_ ?_
    · rintro i x σ' H' H3 hi ⟨δ', M', G', q, e2, sl2, ok2⟩ y
      obtain ⟨d, G3, hd, e3, ok3, r3⟩ := hy i G' M' H' x H3 hi e2 ok2 (ic i δ' M' (Nat.le_of_lt hi) q) y
      refine is i δ' M' d hi hd q σ' G3 H3 x (e0.trans (e1.trans (e2.trans e3))) (sl2.mono e3) ok3 r3 _ fun δ4 M4 σ4 G4 H4 h4 e4 sl4 ok4 => ?_
      refine h4 σ4 G4 H4 (e0.trans (e1.trans (e2.trans (e3.trans e4)))) sl4 ok4 _ (fun δ5 M5 σ5 G5 H5 h5 e5 sl5 ok5 => ⟨δ5, M5, G5, h5, e2.trans (e3.trans (e4.trans e5)), sl5, ok5⟩) (fun δ5 M5 v5 G5 H5 h5 e5 ok5 r5 => k2 δ5 M5 v5 G5 H5 h5 (e1.trans (e2.trans (e3.trans (e4.trans e5)))) ok5 r5)
        (fun δ5 M5 σ5 G5 H5 h5 e5 sl5 ok5 => k1 δ5 M5 σ5 G5 H5 h5 (e1.trans (e2.trans (e3.trans (e4.trans e5)))) sl5 ok5) (fun δ5 M5 σ5 G5 H5 h5 e5 sl5 ok5 => ⟨δ5, M5, G5, h5, e2.trans (e3.trans (e4.trans e5)), sl5, ok5⟩)
    · rintro σ' H' ⟨δ', M', G', q, e2, sl2, ok2⟩
      exact k1 δ' M' σ' G' H' (ie δ' M' q) (e1.trans e2) sl2 ok2
theorem sw_while (I : Nat → Dl → Mm → Prop) (m0 : Nat) (h0 : I m0 δ M) (h : ∀ m δ' M', I m δ' M' → TW X G0 c δ' M' fun b M2 => (b = true → SWs X G0 body δ' M2 { nx := fun δ3 M3 => ∃ m', m' < m ∧ I m' δ3 M3, ct := fun δ3 M3 => ∃ m', m' < m ∧ I m' δ3 M3, bk := E.nx, rt := E.rt }) ∧ (b = false → E.nx δ' M2))
    (hp : PassesOwn (model X.prog X.w) X.A X.env X.xe) : SW X G0 (.While c body [] pos) δ M E :=
  SW.of (ps_while hp ptS pssS) fun σ G H e0 sl ok R k1 k2 k3 k4 => by
    refine ⟨fun m σ' H' => ∃ δ' M' G', I m δ' M' ∧ Same G G' ∧ Sl X.K G' σ' δ' ∧ Ok X.K G' M' H', ⟨m0, δ, M, G, h0, Same.refl _, sl, ok⟩, ?_⟩
    rintro m σ1 H1 ⟨δ1, M1, G1, q, e1, sl1, ok1⟩
    refine h m δ1 M1 q σ1 G1 H1 (e0.trans e1) sl1 ok1 _ fun b M2 G2 H2 h2 e2 ok2 => ?_
    cases b with
    | true =>
      refine iteT ⟨fun σ' H' => ∃ m', m' < m ∧ ∃ δ' M' G', I m' δ' M' ∧ Same G G' ∧ Sl X.K G' σ' δ' ∧ Ok X.K G' M' H', fun σ' H' ⟨m', hm, z⟩ => ⟨m', hm, z⟩, ?_⟩
      exact h2.1 rfl σ1 G2 H2 (e0.trans (e1.trans e2)) (sl1.mono e2) ok2 _ (fun δ5 M5 σ5 G5 H5 ⟨m', hm, h5⟩ e5 sl5 ok5 => ⟨m', hm, δ5, M5, G5, h5, e1.trans (e2.trans e5), sl5, ok5⟩) (fun δ5 M5 v5 G5 H5 h5 e5 ok5 r5 => k2 δ5 M5 v5 G5 H5 h5 (e1.trans (e2.trans e5)) ok5 r5)
        (fun δ5 M5 σ5 G5 H5 h5 e5 sl5 ok5 => k1 δ5 M5 σ5 G5 H5 h5 (e1.trans (e2.trans e5)) sl5 ok5) (fun δ5 M5 σ5 G5 H5 ⟨m', hm, h5⟩ e5 sl5 ok5 => ⟨m', hm, δ5, M5, G5, h5, e1.trans (e2.trans e5), sl5, ok5⟩)
    | false => exact iteF (k1 δ1 M2 σ1 G2 H2 (h2.2 rfl) (e1.trans e2) (sl1.mono e2) ok2)
end

/-! ### comprehensions -/
theorem wipe_set {σ : L2.St} {j : Nat} {w : Option V} : ∀ {vs : List Nat}, j ∈ vs → L2.wipe (σ.set j w) vs = L2.wipe σ vs
  | [], h => by cases h
  | v :: vs, h => by
    unfold L2.wipe
    by_cases e : j = v
    · subst e
      have z : ∀ (τ : L2.St), L2.wipe (τ.set j w) vs = (L2.wipe τ vs).set j w ∨ L2.wipe (τ.set j w) vs = L2.wipe τ vs := fun τ => by
        by_cases hm : j ∈ vs
        · exact .inr (wipe_set hm)
        · refine .inl ?_
          clear h
          induction vs generalizing τ with
          | nil => rfl
          | cons u us ih =>
            unfold L2.wipe
            have h1 : j ≠ u := fun z => hm (by rw [z]; exact List.mem_cons_self)
            rw [ih τ (fun z => hm (List.mem_cons_of_mem _ z)), List.set_comm _ _ h1]
      rcases z σ with z | z
      · rw [z, List.set_set]
      · rw [z]
    · rw [wipe_set (List.mem_of_ne_of_mem e h)]
theorem wipe_none {σ : L2.St} {v : Nat} : ∀ {vs : List Nat}, L2.wipe (σ.set v none) vs = (L2.wipe σ vs).set v none
  | [] => rfl
  | u :: us => by
    unfold L2.wipe
    rw [wipe_none]
    by_cases e : v = u
    · subst e; rw [List.set_set]
    · rw [List.set_comm _ _ e]
theorem wipe_wipe (σ : L2.St) : ∀ (vs ws : List Nat), (∀ v ∈ ws, v ∈ vs) → L2.wipe (L2.wipe σ ws) vs = L2.wipe σ vs
  | vs, [], _ => rfl
  | vs, w :: ws, h => by
    show L2.wipe ((L2.wipe σ ws).set w none) vs = _
    rw [wipe_set (h w List.mem_cons_self), wipe_wipe σ vs ws fun v hv => h v (List.mem_cons_of_mem _ hv)]
def BE (X : Cx) (scope : Scope) (e : Expr) : TE := fun σ H R => ∀ (s0 : Shared) (H0 : Hp) (C : Addr) (cl : List (Str × Addr)) (fp : List Addr), tE (X.blk s0 H0 scope (compEnvC scope cl C X.env) fp) e σ H R
def BT (X : Cx) (scope : Scope) : List Expr → TT
  | [c] => fun σ H R => ∀ (s0 : Shared) (H0 : Hp) (C : Addr) (cl : List (Str × Addr)) (fp : List Addr), tT (X.blk s0 H0 scope (compEnvC scope cl C X.env) fp) c σ H R
  | [] => tYes
  | _ => fun _ _ _ => False
theorem beS {X : Cx} {scope : Scope} {e : Expr} (s0 : Shared) (H0 : Hp) (C : Addr) (cl : List (Str × Addr)) (fp : List Addr) : PE (X.blk s0 H0 scope (compEnvC scope cl C X.env) fp) e (BE X scope e) := ⟨fun pins s σ H Q I h => h s0 H0 C cl fp pins s I⟩
theorem btS {X : Cx} {scope : Scope} {ifs : List Expr} (h1 : ifs.length ≤ 1) (s0 : Shared) (H0 : Hp) (C : Addr) (cl : List (Str × Addr)) (fp : List Addr) : PTs (X.blk s0 H0 scope (compEnvC scope cl C X.env) fp) ifs (BT X scope ifs) := by
  match ifs, h1 with
  | [], _ => exact pts_nil
  | [c], _ => exact pts_one ⟨fun pins s σ H Q I h => h s0 H0 C cl fp pins s I⟩
  | _ :: _ :: _, h => simp at h
/-- the tests of a block -/
def BTW (X : Cx) (G0 : Hp) (scope : Scope) (ifs : List Expr) (δ : Dl) (M : Mm) (Q : Bool → Mm → Prop) : Prop := TTe X.K G0 (BT X scope ifs) δ M Q
def BEW (X : Cx) (G0 : Hp) (scope : Scope) (e : Expr) (δ : Dl) (M : Mm) (Q : D → Mm → Prop) : Prop := ET X.K G0 (BE X scope e) δ M Q
section
variable {X : Cx} {G0 : Hp} {δ : Dl} {M : Mm} {e elt iter tg c : Expr} {ifs : List Expr} {p pos py px spos : Pos} {x y : Str} {Q : D → Mm → Prop} {QB : Bool → Mm → Prop} {scope : Scope} {own : List (Str × Nat)} {j : Nat}
theorem btw_nil (h : QB true M) : BTW X G0 scope [] δ M QB := fun σ G H e0 sl ok R k => k true M G H h (Same.refl _) ok
theorem btw_one (h : ∀ (s0 : Shared) (H0 : Hp) (C : Addr) (cl : List (Str × Addr)) (fp : List Addr), TW (X.blk s0 H0 scope (compEnvC scope cl C X.env) fp) G0 c δ M QB) : BTW X G0 scope [c] δ M QB := fun σ G H e0 sl ok R k s0 H0 C cl fp => h s0 H0 C cl fp σ G H e0 sl ok R k
theorem bew (h : ∀ (s0 : Shared) (H0 : Hp) (C : Addr) (cl : List (Str × Addr)) (fp : List Addr), EW (X.blk s0 H0 scope (compEnvC scope cl C X.env) fp) G0 e δ M Q) : BEW X G0 scope e δ M Q := fun σ G H e0 sl ok R k s0 H0 C cl fp => h s0 H0 C cl fp σ G H e0 sl ok R k
/-- what a comprehension's turns do: pD is the new list -/
def LcI (X : Cx) (G0 : Hp) (scope : Scope) (ifs : List Expr) (elt : Expr) (js : D → Dl) (n : Nat) (it : Nat → D → Prop) (Cnd : Mm → Prop) (M1 : Mm) (Q : D → Mm → Prop) : Prop :=
  n ≤ 1000000 ∧ ∀ pD, M1 pD = none → ∃ I : Nat → List D → Mm → Prop, I 0 [] (mset M1 pD (some (.lst []))) ∧ (∀ i acc M', I i acc M' → Cnd M' ∧ acc.length ≤ i ∧ M' pD = some (.lst acc)) ∧
    (∀ i acc M' d, i < n → it i d → I i acc M' → BTW X G0 scope ifs (js d) M' fun b M2 => (b = true → BEW X G0 scope elt (js d) M2 fun y M3 => M3 pD = some (.lst acc) ∧ I (i + 1) (acc ++ [y]) (mset M3 pD (some (.lst (acc ++ [y]))))) ∧ (b = false → I (i + 1) acc M2)) ∧
    (∀ acc M', I n acc M' → Q (.lst acc) (mset M' pD none) ∨ Q (.obj pD) M')
theorem et_lc {vs : List Nat} (hj : j ∈ vs) (h : IW X G0 tg iter δ M fun n it Cnd M1 => LcI X G0 scope ifs elt (fun d => (wipeD δ vs).set j (some d)) n it Cnd M1 Q) : ET X.K G0 (tLc (tI X tg iter) (gName j) (BT X scope ifs) (BE X scope elt) vs) δ M Q := fun σ G H e0 sl ok R k =>
  h σ G H e0 sl ok _ fun n it Cnd M1 J Gd Y G1 H1 h1 w e1 ok1 hgd hy => fun pD hpD => by
    obtain ⟨hn, h1⟩ := h1
    have hg := ok1.free hpD
    obtain ⟨I, i0, ic, is, ie⟩ := h1 pD hg.2
    refine lc_it w (fun i H' => ∃ acc M' G', I i acc M' ∧ Same G1 G' ∧ Ok X.K G' M' H') ⟨[], _, G1, i0, Same.refl _, ok1.laidM hpD (.lst .nil)⟩ (fun i H' hi ⟨acc, M', G', q, e2, ok2⟩ => hgd G' M' H' e2 ok2 (ic i acc M' q).1) ?_ ?_
    · rintro i x H' H3 hi ⟨acc, M', G', q, e2, ok2⟩ yy
      obtain ⟨c1, c2, c3⟩ := ic i acc M' q
      obtain ⟨d, G3, hd, e3, ok3, r3⟩ := hy i G' M' H' x H3 hi e2 ok2 c1 yy
      refine ⟨by rw [wipe_set hj, wipe_wipe σ vs vs fun _ z => z], ?_⟩
      have sl3 : Sl X.K G3 ((L2.wipe σ vs).set j (some x)) ((wipeD δ vs).set j (some d)) := ((sl.mono (e1.trans (e2.trans e3))).wipe vs).set r3
      have eG := e1.trans (e2.trans e3)
      refine is i acc M' d hi hd q _ G3 H3 (e0.trans eG) sl3 ok3 _ fun b M4 G4 H4 h4 e4 ok4 => ?_
      cases b with
      | true =>
        refine iteT (h4.1 rfl _ G4 H4 (e0.trans (eG.trans e4)) (sl3.mono e4) ok4 _ fun y M5 v5 G5 H5 h5 e5 ok5 r5 => ?_)
        obtain ⟨g, o, ho, ro⟩ := ok5.mu pD _ h5.1
        cases ro with
        | lst ra => exact ⟨_, ho, by rw [ra.length]; exact line_lt (by omega), _, _, G5, h5.2, e2.trans (e3.trans (e4.trans e5)), ok5.write h5.1 (.lst (ra.append (.cons r5 .nil)))⟩
      | false => exact iteF ⟨acc, M4, G4, h4.2 rfl, e2.trans (e3.trans e4), ok4⟩
    · rintro H' ⟨acc, M', G', q, e2, ok2⟩
      obtain ⟨c1, c2, c3⟩ := ic n acc M' q
      obtain ⟨g, o, ho, ro⟩ := ok2.mu pD _ c3
      cases ro with
      | lst ra =>
        rcases ie acc M' q with q | q
        · exact k _ _ _ _ H' q (e1.trans (e2.trans (same_new g))) (ok2.freeze ho g) (.lst upd_same (ra.mono (same_new g)))
        · exact k _ _ _ _ H' q (e1.trans e2) ok2 (.obj pD)
/-- [elt for y in iter if ..], y in slot j -/
theorem ew_lc (own : List (Str × Nat)) (j : Nat) (hN : X.N.Nodup) (ok : BlkOk X.N X.env.scope scope own) (h : IW X G0 (.Name y py) iter δ M fun n it Cnd M1 => LcI X G0 scope ifs elt (fun d => (wipeD δ (own.map (·.2))).set j (some d)) n it Cnd M1 Q)
    (hj : j ∈ own.map (·.2) := by decide) (hg : ∀ (s : Shared) (H : Hp) (C : Addr) (cl : List (Str × Addr)) (fp : List Addr), PG (X.blk s H scope (compEnvC scope cl C X.env) fp) (.Name y py) (gName j) := by exact fun _ _ _ _ _ => pg_name (by assumption) rfl (by first | exact Or.inl rfl | exact Or.inr rfl))
    (hi : ifs.length ≤ 1 := by decide) (hc : X.calm = true := by rfl) (hs : ∀ x, foldedSetIterable iter X.env x = pure x := by intro _; rfl) : EW X G0 (.ListComp elt [⟨.Name y py, iter, ifs, 0⟩] scope pos) δ M Q :=
  EW.of (pe_lc hc hN piS ok hg (btS hi) beS hs) (et_lc hj h)
/-- z = [elt for y in iter if ..] -/
theorem sw_setLc {E : En} {z : Str} (i : Nat) (own : List (Str × Nat)) (j : Nat) (hN : X.N.Nodup) (ok : BlkOk X.N X.env.scope scope own) (h : IW X G0 (.Name y py) iter δ M fun n it Cnd M1 => LcI X G0 scope ifs elt (fun d => (wipeD δ (own.map (·.2))).set j (some d)) n it Cnd M1 fun d M2 => E.nx (δ.set i (some d)) M2)
    (hsw : swapsWith (.ListComp elt [⟨.Name y py, iter, ifs, 0⟩] scope pos) (some (.Name z px)) spos.line X.env = pure true) (hj : j ∈ own.map (·.2) := by decide) (hy : X.N[i]? = some z := by rfl) (hyl : X.env.scope.names.lookup z = some .local := by rfl)
    (hg : ∀ (s : Shared) (H : Hp) (C : Addr) (cl : List (Str × Addr)) (fp : List Addr), PG (X.blk s H scope (compEnvC scope cl C X.env) fp) (.Name y py) (gName j) := by exact fun _ _ _ _ _ => pg_name (by assumption) rfl (by first | exact Or.inl rfl | exact Or.inr rfl))
    (hi : ifs.length ≤ 1 := by decide) (hc : X.calm = true := by rfl) (hs : ∀ x, foldedSetIterable iter X.env x = pure x := by intro _; rfl) : SW X G0 (.Assign [.Name z px] (.ListComp elt [⟨.Name y py, iter, ifs, 0⟩] scope pos) spos) δ M E :=
  SW.of (ps_setLc hc hN hy hyl hsw piS ok hg (btS hi) beS hs) fun σ G H e0 sl ok R k1 k2 k3 k4 => et_lc hj h σ G H e0 sl ok _ fun d M1 v1 G1 H1 h1 e1 ok1 r1 => k1 _ M1 _ G1 H1 h1 e1 ((sl.mono e1).set r1) ok1
end
theorem mset_back {M : Mm} {p : Addr} {o : Option MO} (h : M p = none) : mset (mset M p o) p none = M := by rw [mset_mset, mset_self h]
/-- turns that leave all as it is: the items' images, in turn -/
theorem lcI_pure {X : Cx} {G0 : Hp} {scope : Scope} {ifs : List Expr} {elt : Expr} {js : D → Dl} {n : Nat} {it : Nat → D → Prop} {Cnd : Mm → Prop} {M1 : Mm} {Q : D → Mm → Prop} (f : Nat → Option D) (hn : n ≤ 1000000) (hC : ∀ p o, M1 p = none → Cnd (mset M1 p o))
    (h : ∀ i d M', i < n → it i d → (∃ p o, M1 p = none ∧ M' = mset M1 p o) → BTW X G0 scope ifs (js d) M' fun b M2 => (b = true → BEW X G0 scope elt (js d) M2 fun y M3 => M3 = M' ∧ f i = some y) ∧ (b = false → M2 = M' ∧ f i = none))
    (hq : Q (.lst ((List.range n).filterMap f)) M1) : LcI X G0 scope ifs elt js n it Cnd M1 Q := by
  refine ⟨hn, fun pD hp => ⟨fun i acc M' => i ≤ n ∧ acc = (List.range i).filterMap f ∧ M' = mset M1 pD (some (.lst acc)), ⟨Nat.zero_le _, rfl, rfl⟩, ?_, ?_, ?_⟩⟩
  · rintro i acc M' ⟨hi, rfl, rfl⟩
    refine ⟨hC pD _ hp, ?_, mset_same⟩
    exact Nat.le_trans (List.length_filterMap_le _ _) (by simp)
  · rintro i acc M' d hi hd ⟨_, rfl, rfl⟩
    refine fun σ G H e0 sl ok R k => h i d _ hi hd ⟨pD, _, hp, rfl⟩ σ G H e0 sl ok R fun b M2 G' H' q => k b M2 G' H' ⟨fun hb => ?_, fun hb => ?_⟩
    · refine fun σ G H e0 sl ok R k => q.1 hb σ G H e0 sl ok R fun y M3 v G' H' q3 => k y M3 v G' H' ?_
      obtain ⟨rfl, e⟩ := q3
      refine ⟨mset_same, hi, ?_, ?_⟩
      · rw [List.range_succ, List.filterMap_append]
        simp [e]
      · rw [mset_mset]
    · obtain ⟨rfl, e⟩ := q.2 hb
      refine ⟨hi, ?_, rfl⟩
      rw [List.range_succ, List.filterMap_append]
      simp [e]
  · rintro acc M' ⟨_, rfl, rfl⟩
    exact .inl (by rw [mset_back hp]; exact hq)
/-- .. the list may change behind -/
theorem lcI_pureM {X : Cx} {G0 : Hp} {scope : Scope} {ifs : List Expr} {elt : Expr} {js : D → Dl} {n : Nat} {it : Nat → D → Prop} {Cnd : Mm → Prop} {M1 : Mm} {Q : D → Mm → Prop} (f : Nat → Option D) (hn : n ≤ 1000000) (hC : ∀ p o, M1 p = none → Cnd (mset M1 p o))
    (h : ∀ i d M', i < n → it i d → (∃ p o, M1 p = none ∧ M' = mset M1 p o) → BTW X G0 scope ifs (js d) M' fun b M2 => (b = true → BEW X G0 scope elt (js d) M2 fun y M3 => M3 = M' ∧ f i = some y) ∧ (b = false → M2 = M' ∧ f i = none))
    (hq : ∀ p, M1 p = none → Q (.obj p) (mset M1 p (some (.lst ((List.range n).filterMap f))))) : LcI X G0 scope ifs elt js n it Cnd M1 Q := by
  refine ⟨hn, fun pD hp => ⟨fun i acc M' => i ≤ n ∧ acc = (List.range i).filterMap f ∧ M' = mset M1 pD (some (.lst acc)), ⟨Nat.zero_le _, rfl, rfl⟩, ?_, ?_, ?_⟩⟩
  · rintro i acc M' ⟨hi, rfl, rfl⟩
    refine ⟨hC pD _ hp, ?_, mset_same⟩
    exact Nat.le_trans (List.length_filterMap_le _ _) (by simp)
  · rintro i acc M' d hi hd ⟨_, rfl, rfl⟩
    refine fun σ G H e0 sl ok R k => h i d _ hi hd ⟨pD, _, hp, rfl⟩ σ G H e0 sl ok R fun b M2 G' H' q => k b M2 G' H' ⟨fun hb => ?_, fun hb => ?_⟩
    · refine fun σ G H e0 sl ok R k => q.1 hb σ G H e0 sl ok R fun y M3 v G' H' q3 => k y M3 v G' H' ?_
      obtain ⟨rfl, e⟩ := q3
      refine ⟨mset_same, hi, ?_, ?_⟩
      · rw [List.range_succ, List.filterMap_append]
        simp [e]
      · rw [mset_mset]
    · obtain ⟨rfl, e⟩ := q.2 hb
      refine ⟨hi, ?_, rfl⟩
      rw [List.range_succ, List.filterMap_append]
      simp [e]
  · rintro acc M' ⟨_, rfl, rfl⟩
    exact .inr (hq pD hp)
end Aw
namespace Aw
open PySem PySem.Spec PyProof.Rows L2

/-! ### data as the library has it -/
mutual
def D.py : D → PyData
  | .non => .none
  | .bl b => .bool b
  | .int i => .int i
  | .str x => .str x
  | .lst ds => .list (D.pyAll ds)
  | .rl ds => .list (D.pyAll ds)
  | .tup ds => .tuple (D.pyAll ds)
  | .rt ds => .tuple (D.pyAll ds)
  | _ => .none
def D.pyAll : List D → List PyData
  | [] => []
  | d :: ds => D.py d :: D.pyAll ds
end
mutual
def D.isPy : D → Bool
  | .non => true
  | .bl b => true
  | .int i => true
  | .str x => PyData.strOk x
  | .lst ds => D.isPyAll ds
  | .rl ds => D.isPyAll ds
  | .tup ds => D.isPyAll ds
  | .rt ds => D.isPyAll ds
  | _ => false
def D.isPyAll : List D → Bool
  | [] => true
  | d :: ds => D.isPy d && D.isPyAll ds
end
mutual
def D.deep : D → Nat
  | .lst ds => D.deepAll ds + 1
  | .rl ds => D.deepAll ds + 1
  | .tup ds => D.deepAll ds + 1
  | .rt ds => D.deepAll ds + 1
  | _ => 0
def D.deepAll : List D → Nat
  | [] => 0
  | d :: ds => max (D.deep d) (D.deepAll ds)
end
section
variable {K : PySem.W.Frag} {G H : Hp}
mutual
theorem Rep.dp (e : Same G H) : ∀ {v : V} {d : D}, Rep K G v d → d.isPy = true → Dp K H v d.py
  | _, _, .non, _ => .non
  | _, _, .bl b, _ => .bl b
  | _, _, .int i, _ => .int i
  | _, _, .str x, _ => .str x
  | _, _, .obj a, h => by simp [D.isPy] at h
  | _, _, .ty n, h => by simp [D.isPy] at h
  | _, _, .lst g r, h => .lst (SqL.of (e _ _ g)) (RepAll.dp e r (by simpa [D.isPy] using h))
  | _, _, .rl g r, h => .lst (sqL_mono e g) (RepAll.dp e r (by simpa [D.isPy] using h))
  | _, _, .tup g r, h => .tup (SqT.of (e _ _ g)) (RepAll.dp e r (by simpa [D.isPy] using h))
  | _, _, .rt g r, h => .tup (sqT_mono e g) (RepAll.dp e r (by simpa [D.isPy] using h))
  | _, _, .ins g r, h => by simp [D.isPy] at h
  | _, _, .dK g r, h => by simp [D.isPy] at h
  | _, _, .dT g r, h => by simp [D.isPy] at h
theorem RepAll.dp (e : Same G H) : ∀ {vs : List V} {ds : List D}, RepAll K G vs ds → D.isPyAll ds = true → DpAll K H vs (D.pyAll ds)
  | _, _, .nil, _ => .nil
  | _, _, .cons h r, q => by
    simp only [D.isPyAll, Bool.and_eq_true] at q
    exact .cons (Rep.dp e h q.1) (RepAll.dp e r q.2)
end
end
mutual
theorem D.canLay : ∀ d : D, d.isPy = true → d.py.canLay0 = true
  | .non, _ => by simp [D.py, PyData.canLay0]
  | .bl b, _ => by simp [D.py, PyData.canLay0]
  | .int i, _ => by simp [D.py, PyData.canLay0]
  | .str x, h => by simpa [D.py, PyData.canLay0, D.isPy] using h
  | .lst ds, h => by simp only [D.py, PyData.canLay0]; exact D.canLayAll ds (by simpa [D.isPy] using h)
  | .rl ds, h => by simp only [D.py, PyData.canLay0]; exact D.canLayAll ds (by simpa [D.isPy] using h)
  | .tup ds, h => by simp only [D.py, PyData.canLay0]; exact D.canLayAll ds (by simpa [D.isPy] using h)
  | .rt ds, h => by simp only [D.py, PyData.canLay0]; exact D.canLayAll ds (by simpa [D.isPy] using h)
  | .obj a, h => by simp [D.isPy] at h
  | .ty n, h => by simp [D.isPy] at h
  | .ins _ _, h => by simp [D.isPy] at h
  | .dK _, h => by simp [D.isPy] at h
  | .dT _, h => by simp [D.isPy] at h
theorem D.canLayAll : ∀ ds : List D, D.isPyAll ds = true → PyData.canLayAll0 (D.pyAll ds) = true
  | [], _ => by simp [D.pyAll, PyData.canLayAll0]
  | d :: ds, h => by
    simp only [D.isPyAll, Bool.and_eq_true] at h
    simp only [D.pyAll, PyData.canLayAll0, Bool.and_eq_true]
    exact ⟨D.canLay d h.1, D.canLayAll ds h.2⟩
end
mutual
theorem D.depth_py : ∀ d : D, d.py.depth ≤ d.deep
  | .non => by simp [D.py, PyData.depth]
  | .bl b => by simp [D.py, PyData.depth]
  | .int i => by simp [D.py, PyData.depth]
  | .str x => by simp [D.py, PyData.depth]
  | .lst ds => by have := D.depth_pyAll ds; simp only [D.py, PyData.depth, D.deep]; omega
  | .rl ds => by have := D.depth_pyAll ds; simp only [D.py, PyData.depth, D.deep]; omega
  | .tup ds => by have := D.depth_pyAll ds; simp only [D.py, PyData.depth, D.deep]; omega
  | .rt ds => by have := D.depth_pyAll ds; simp only [D.py, PyData.depth, D.deep]; omega
  | .obj a => by simp [D.py, PyData.depth]
  | .ty n => by simp [D.py, PyData.depth]
  | .ins _ _ => by simp [D.py, PyData.depth]
  | .dK _ => by simp [D.py, PyData.depth]
  | .dT _ => by simp [D.py, PyData.depth]
theorem D.depth_pyAll : ∀ ds : List D, PyData.depthAll (D.pyAll ds) ≤ D.deepAll ds
  | [] => by simp [D.pyAll, PyData.depthAll]
  | d :: ds => by
    have h1 := D.depth_py d
    have h2 := D.depth_pyAll ds
    simp only [D.pyAll, PyData.depthAll, D.deepAll]
    omega
end
/-- what may be compared with == -/
structure D.Eqs (d : D) : Prop where
  py : d.isPy = true
  dp : d.deep ≤ 64
theorem D.Eqs.shaped {d : D} (h : d.Eqs) : SeqAt.shaped d.py = true := by
  unfold SeqAt.shaped
  rw [Bool.and_eq_true]
  exact ⟨D.canLay d h.py, decide_eq_true (Nat.le_trans (D.depth_py d) h.dp)⟩
theorem D.Eqs.refl {d : D} (h : d.Eqs) : PyData.eqv d.py d.py = true := PySem.SeqAt.eqv_refl _ (D.canLay d h.py)

section
variable {X : Cx} {G0 : Hp} {δ : Dl} {M : Mm} {e a b c o : Expr} {es : List Expr} {Q : D → Mm → Prop} {QB : Bool → Mm → Prop} {pos : Pos}
/-! ### operators of any kind -/
section
variable {K : PySem.W.Frag} {r r' : R2} {d1 d2 : D}
theorem rr_l (h : R2A K r d1 d2 M Q) : R2A K (fun x y H Q => r x y H Q ∨ r' x y H Q) d1 d2 M Q := fun G H v1 v2 ok r1 r2 R k => .inl (h G H v1 v2 ok r1 r2 R k)
theorem rr_r (h : R2A K r' d1 d2 M Q) : R2A K (fun x y H Q => r x y H Q ∨ r' x y H Q) d1 d2 M Q := fun G H v1 v2 ok r1 r2 R k => .inr (h G H v1 v2 ok r1 r2 R k)
theorem rr_strcat {x y : Str} (hl : x.length + y.length ≤ 1000000) (h : Q (.str (x ++ y)) M) : R2A K (fun x y H Q => ∃ i j, x = .str i ∧ y = .str j ∧ i.length + j.length ≤ sizeLine ∧ Q (.str (i ++ j)) H) (.str x) (.str y) M Q := fun G H v1 v2 ok r1 r2 R k => by
  cases r1; cases r2
  exact ⟨x, y, rfl, rfl, line_of hl, k _ _ _ _ _ h (Same.refl _) ok (.str _)⟩
/-- a tracked list -/
def IsTl (M : Mm) (d : D) (ds : List D) : Prop := d = .lst ds ∨ ∃ p, d = .obj p ∧ M p = some (.lst ds)
theorem isTl_at {G H : Hp} {d : D} {v : V} {ds : List D} (ok : Ok K G M H) (i : IsTl M d ds) (r : Rep K G v d) : ∃ a vs, v = .ref a ∧ H a = some (.lst vs) ∧ RepAll K G vs ds := by
  rcases i with rfl | ⟨p, rfl, hp⟩
  · cases r with | lst g r => exact ⟨_, _, rfl, ok.ex _ _ g, r⟩
  · cases r
    obtain ⟨g, o, ho, ro⟩ := ok.mu p _ hp
    cases ro with | lst r => exact ⟨_, _, rfl, ho, r⟩
theorem rr_cat {ds es : List D} (h1 : IsTl M d1 ds) (h2 : IsTl M d2 es) (hl : ds.length + es.length ≤ 1000000) (h : Q (.lst (ds ++ es)) M) : R2A K rCat d1 d2 M Q := fun G H v1 v2 ok r1 r2 R k => by
  obtain ⟨a, vs, rfl, ha, ra⟩ := isTl_at ok h1 r1
  obtain ⟨b, ws, rfl, hb, rb⟩ := isTl_at ok h2 r2
  refine ⟨a, b, vs, ws, rfl, rfl, ha, hb, by rw [ra.length, rb.length]; exact line_of hl, fun p hp => ?_⟩
  have hg := ok.free hp
  exact k _ _ _ _ _ h (same_new hg.1) (ok.laid hp) (.lst upd_same ((ra.append rb).mono (same_new hg.1)))
theorem repAll_rep {G : Hp} {vs : List V} {ds : List D} (r : RepAll K G vs ds) : ∀ n : Nat, RepAll K G (List.replicate n vs).flatten (List.replicate n ds).flatten
  | 0 => .nil
  | n + 1 => by
    rw [List.replicate_succ, List.replicate_succ, List.flatten_cons, List.flatten_cons]
    exact r.append (repAll_rep r n)
theorem rr_rep {ds : List D} {n : Int} (h1 : IsTl M d1 ds) (hn : n ≤ 1000000) (hn0 : -1000000 ≤ n) (hl : ds.length * n.toNat ≤ 1000000) (h : Q (.lst (List.replicate n.toNat ds).flatten) M) : R2A K rRep d1 (.int n) M Q := fun G H v1 v2 ok r1 r2 R k => by
  obtain ⟨a, vs, rfl, ha, ra⟩ := isTl_at ok h1 r1
  cases r2
  refine ⟨a, n, vs, rfl, rfl, ha, by omega, by omega, by rw [ra.length]; exact line_of hl, fun p hp => ?_⟩
  have hg := ok.free hp
  exact k _ _ _ _ _ h (same_new hg.1) (ok.laid hp) (.lst upd_same ((repAll_rep ra _).mono (same_new hg.1)))
theorem rr_eqD {d e : D} (h1 : d.Eqs) (h2 : e.Eqs) (h : Q (.bl (PyData.eqv d.py e.py)) M) : R2A K (rEqD K) d e M Q := fun G H v1 v2 ok r1 r2 R k =>
  ⟨_, _, r1.dp ok.ex h1.py, r2.dp ok.ex h2.py, h1.shaped, h2.shaped, k _ _ _ _ _ h (Same.refl _) ok (.bl _)⟩
theorem rr_neD {d e : D} (h1 : d.Eqs) (h2 : e.Eqs) (h : Q (.bl (!PyData.eqv d.py e.py)) M) : R2A K (rNeD K) d e M Q := fun G H v1 v2 ok r1 r2 R k =>
  ⟨_, _, r1.dp ok.ex h1.py, r2.dp ok.ex h2.py, h1.shaped, h2.shaped, k _ _ _ _ _ h (Same.refl _) ok (.bl _)⟩
end
end
end Aw
namespace Aw
open PySem PySem.Spec PyProof.Rows L2

/-! ### defs of the text, as a caller needs them -/
structure Fn0 (K : PySem.W.Frag) (mg : Str → Option Value) (x : Str) (st : Stmt) (ps : List Str) : Prop where
  ex : ∃ f fd, Fun K x x st f fd ∧ mg x = some (.ref f) ∧ Binds K fd ps []
structure Df (P : Program) (w : World) (K : PySem.W.Frag) (mg : Str → Option Value) (base : Heap) (k : Nat) (x : Str) (ps : List Str) (S : ASp) : Prop where
  ex : ∃ f fd, FnA P w K mg base k f fd ps S ∧ mg x = some (.ref f) ∧ PySem.W.keepIn K (.ref f) = true ∧ Binds K fd ps []
section
variable {P : Program} {w : World} {K : PySem.W.Frag} {mg : Str → Option Value} {base : Heap}
theorem df_ok {x : Str} {st : Stmt} {N ps : List Str} {k : Nat} {S : ASp} (F : Fn0 K mg x st ps) (Sc : FnScope N ps (defScope st))
    (hbody : ∀ (f : Addr) (cdv : Value) (A' : Around) (outer : List Env) (s : Shared) (H : Hp) (E : XK) (G0 : Hp) (ds : List D) (M : Mm) (A : D → Mm → Prop) (Z : Zk), Room k (A'.deeper (envOfC x (defScope st) s.heap.objs.size f cdv)) → ds.length = ps.length → S ds M A Z →
      TZ (cxOf (L2.CX P w) P w K mg base N x (defScope st) f cdv A' outer s H E) G0 (fun cls fs _ M' => Z cls fs M') →
      SWs (cxOf (L2.CX P w) P w K mg base N x (defScope st) f cdv A' outer s H E) G0 (defBody st) (ds.map some ++ List.replicate (N.length - ds.length) none) M { nx := fun _ M' => A .non M', rt := A }) : Df P w K mg base (k + 1) x ps S := by
  obtain ⟨f, fd, F, hm, hb⟩ := F.ex
  exact ⟨f, fd, fn_ok F Sc fun cdv A' outer s H E G0 ds M A Z => hbody f cdv A' outer s H E G0 ds M A Z, hm, F.kp, hb⟩
theorem Df.imp {x : Str} {ps : List Str} {k : Nat} {S S' : ASp} (F : Df P w K mg base k x ps S) (h : ∀ ds M A Z, ds.length = ps.length → S' ds M A Z → S ds M A Z) : Df P w K mg base k x ps S' := by
  obtain ⟨f, fd, F, r⟩ := F.ex
  exact ⟨f, fd, F.imp h, r⟩
theorem Df.mono {x : Str} {ps : List Str} {j k : Nat} {S : ASp} (F : Df P w K mg base j x ps S) (h : j ≤ k) : Df P w K mg base k x ps S := by
  obtain ⟨f, fd, F, r⟩ := F.ex
  exact ⟨f, fd, FnOk.mono F h, r⟩
end
section
variable {X : Cx} {G0 : Hp} {δ : Dl} {M : Mm} {e a b c o : Expr} {es : List Expr} {Q : D → Mm → Prop} {QB : Bool → Mm → Prop} {QA : List D → Mm → Prop} {E : En} {p pos apos : Pos} {Z : Zx}
  {k j : Nat} {f C : Addr} {fd : FuncData} {ps : List Str} {S : ASp} {x m : Str}
theorem ew_callD (F : Df X.prog X.w X.K X.mg X.base j x ps S) (hr : Room k X.A) (hjk : j ≤ k) (tz : TZ X G0 Z) (h : AW X G0 (e :: es) δ M fun ds M1 => ds.length = ps.length ∧ S ds M1 Q (fun cls fs M2 => Z cls fs δ M2))
    (hg : Gl X x := by rfl) (hdb : (x == ("__debug__" : Str)) = false := by decide) (he : starEach (e :: es) X.env = (false, eval e X.env) :: starEach es X.env := by rfl) (hpl : (backTo pos (starEach es X.env)).any (·.1) = false := by rfl) :
    EW X G0 (.Call (.Name x p) (e :: es) [] pos) δ M Q := by
  obtain ⟨f, fd, F, hm, hk, hb⟩ := F.ex
  exact ew_call F hr hjk tz hm hk hb h hg hdb he hpl
theorem ew_callD0 (F : Df X.prog X.w X.K X.mg X.base j x ps S) (hr : Room k X.A) (hjk : j ≤ k) (tz : TZ X G0 Z) (h : ps.length = 0 ∧ S [] M Q (fun cls fs M2 => Z cls fs δ M2))
    (hg : Gl X x := by rfl) (hdb : (x == ("__debug__" : Str)) = false := by decide) : EW X G0 (.Call (.Name x p) [] [] pos) δ M Q := by
  obtain ⟨f, fd, F, hm, hk, hb⟩ := F.ex
  exact ew_call0 F hr hjk tz hm hk hb h hg hdb

/-! ### operators of any kind -/
def rAddU : R2 := fun x y H Q => rI0 (fun i j => .int (i + j)) x y H Q ∨ (∃ i j, x = .str i ∧ y = .str j ∧ i.length + j.length ≤ sizeLine ∧ Q (.str (i ++ j)) H) ∨ rCat x y H Q
theorem u_add : OpR X (binaryOp .Add) rAddU := op_add.or (op_add_str.or op_cat)
def rMulU : R2 := fun x y H Q => rI CMul (fun i j => .int (i * j)) x y H Q ∨ rI CMulW (fun i j => .int (i * j)) x y H Q ∨ rRep x y H Q
theorem u_mul : OpR X (binaryOp .Mult) rMulU := op_mul.or (op_mulW.or op_rep)
def rEqU (K : PySem.W.Frag) : R2 := fun x y H Q => rEq x y H Q ∨ rEqD K x y H Q
def rNeU (K : PySem.W.Frag) : R2 := fun x y H Q => rNe x y H Q ∨ rNeD K x y H Q
theorem u_eq (hr : Room k X.A) : OpR X (compareOp .Eq) (rEqU X.K) := op_eq.or (op_eqD hr.units)
theorem u_ne (hr : Room k X.A) : OpR X (compareOp .NotEq) (rNeU X.K) := op_ne.or (op_neD hr.units)
def rDkGet : R2 := fun x y H Q => ∃ a v, x = .ref a ∧ DGet H a y (some v) ∧ Q v H
theorem ix_dict (hr : Room k X.A) : IxR X rDkGet := by
  intro value slice pins s σ H x y v u Q I rx ry q hs
  obtain ⟨a, v', ex, g, q⟩ := q
  subst ex
  obtain rfl : v = Value.ref a := rx
  exact tail_any (dict_typeIs I g) PySem.F.slot_dict_getitem.lookup (d_getItem (by have := hr.units; omega) I g ry fun w' s' I' r' => ⟨v', H, I', r', q⟩) hs
def rIxU (K : PySem.W.Frag) : R2 := fun x y H Q => rIx K x y H Q ∨ rDkGet x y H Q
theorem u_ix (hr : Room k X.A) : IxR X (rIxU X.K) := ix_seq.or (ix_dict hr)
def rInD (neg : Bool) : R2 := fun y x H Q => ∃ a o, x = .ref a ∧ DGet H a y o ∧ Q (.bl (if neg then !o.isSome else o.isSome)) H
theorem op_inDk (hr : Room k X.A) : OpR X (compareOp .In) (rInD false) := by
  intro pins s σ H x y v u Q I rx ry q
  obtain ⟨a, o, ex, g, q⟩ := q
  subst ex
  obtain rfl : u = Value.ref a := ry
  exact d_in (by have := hr.units; omega) I g rx fun s' I' => ⟨.bl o.isSome, H, I', rfl, q⟩
theorem op_notInDk (hr : Room k X.A) : OpR X (compareOp .NotIn) (rInD true) := by
  intro pins s σ H x y v u Q I rx ry q
  obtain ⟨a, o, ex, g, q⟩ := q
  subst ex
  obtain rfl : u = Value.ref a := ry
  exact d_notIn (by have := hr.units; omega) I g rx fun s' I' => ⟨.bl (!o.isSome), H, I', rfl, q⟩
def rInSg (neg : Bool) : R2 := fun x y H Q => ∃ (c : Nat) (z : Str), x = .str ⟨#[c]⟩ ∧ y = .str z ∧ Q (.bl (if neg then !decide (c ∈ z.cps.toList) else decide (c ∈ z.cps.toList))) H
def rInU (K : PySem.W.Frag) (neg : Bool) : R2 := fun x y H Q => L2.rIn K neg x y H Q ∨ rInD neg x y H Q ∨ rInSg neg x y H Q
theorem u_in (hr : Room k X.A) : OpR X (compareOp .In) (rInU X.K false) := op_in_seq.or ((op_inDk hr).or op_in_sign)
theorem u_notin (hr : Room k X.A) : OpR X (compareOp .NotIn) (rInU X.K true) := op_notIn_seq.or ((op_notInDk hr).or op_notIn_sign)
section
variable {K : PySem.W.Frag} {i n : Int} {d1 d2 : D}
theorem rr_addI (h : Q (.int (i + n)) M) : R2A K rAddU (.int i) (.int n) M Q := rr_l (rr_I0i h)
theorem rr_addS {x y : Str} (hl : x.length + y.length ≤ 1000000) (h : Q (.str (x ++ y)) M) : R2A K rAddU (.str x) (.str y) M Q := rr_r (rr_l (rr_strcat hl h))
theorem rr_addL {ds es : List D} (h1 : IsTl M d1 ds) (h2 : IsTl M d2 es) (hl : ds.length + es.length ≤ 1000000) (h : Q (.lst (ds ++ es)) M) : R2A K rAddU d1 d2 M Q := rr_r (rr_r (rr_cat h1 h2 hl h))
theorem rr_mulI (hc : CMul i n) (h : Q (.int (i * n)) M) : R2A K rMulU (.int i) (.int n) M Q := rr_l (rr_Ii hc h)
theorem rr_mulW (hc : CMulW i n) (h : Q (.int (i * n)) M) : R2A K rMulU (.int i) (.int n) M Q := rr_r (rr_l (rr_Ii hc h))
theorem rr_mulL {ds : List D} (h1 : IsTl M d1 ds) (hn : n ≤ 1000000) (hn0 : -1000000 ≤ n) (hl : ds.length * n.toNat ≤ 1000000) (h : Q (.lst (List.replicate n.toNat ds).flatten) M) : R2A K rMulU d1 (.int n) M Q := rr_r (rr_r (rr_rep h1 hn hn0 hl h))
theorem rr_eqS (hs : scalD d1 d2 = true) (h : Q (.bl (eqSc d1 d2)) M) : R2A K (rEqU K) d1 d2 M Q := rr_l (rr_eq hs h)
theorem rr_neS (hs : scalD d1 d2 = true) (h : Q (.bl (!eqSc d1 d2)) M) : R2A K (rNeU K) d1 d2 M Q := rr_l (rr_ne hs h)
theorem rr_eqQ (h1 : d1.Eqs) (h2 : d2.Eqs) (h : Q (.bl (PyData.eqv d1.py d2.py)) M) : R2A K (rEqU K) d1 d2 M Q := rr_r (rr_eqD h1 h2 h)
theorem rr_neQ (h1 : d1.Eqs) (h2 : d2.Eqs) (h : Q (.bl (!PyData.eqv d1.py d2.py)) M) : R2A K (rNeU K) d1 d2 M Q := rr_r (rr_neD h1 h2 h)
theorem rr_uL {ds : List D} {d : D} (ha : atI ds i = some d) (h : Q d M) : R2A K (rIxU K) (.lst ds) (.int i) M Q := rr_l (rr_ixL ha h)
theorem rr_uT {ds : List D} {d : D} (ha : atI ds i = some d) (h : Q d M) : R2A K (rIxU K) (.tup ds) (.int i) M Q := rr_l (rr_ixT ha h)
theorem rr_uM {ds : List D} {d : D} {p : Addr} (hp : M p = some (.lst ds)) (ha : atI ds i = some d) (h : Q d M) : R2A K (rIxU K) (.obj p) (.int i) M Q := rr_l (rr_ixM hp ha h)
theorem rr_uS {z : Str} {c : Nat} (hz : z.length ≤ 1000000) (ha : atI z.cps.toList i = some c) (h : Q (.str ⟨#[c]⟩) M) : R2A K (rIxU K) (.str z) (.int i) M Q := rr_l (rr_ixS (line_of hz) ha h)
theorem rr_uD {kvs : List (Key × D)} {k : Key} {v : D} (hd : IsDk M d1 kvs) (hk : keyOf d2 = some k) (hv : valD kvs k = some v) (h : Q v M) : R2A K (rIxU K) d1 d2 M Q := rr_r fun G H v1 v2 ok r1 r2 R q => by
  cases keyOf_eq hk
  obtain ⟨a, vs, rfl, rd, rk⟩ := isDk_at ok hd r1
  rcases rk.find (k := k) with ⟨z, _⟩ | ⟨d', v', z1, z2, z3⟩
  · rw [hv] at z; cases z
  · rw [hv] at z1; cases z1
    exact ⟨a, v', rfl, .inl ⟨vs, k, rd, rep_key r2, z2.symm⟩, q _ _ _ _ _ h (Same.refl _) ok z3⟩
/-- in, by keys -/
theorem rr_inD {neg : Bool} {kvs : List (Key × D)} {k : Key} (hd : IsDk M d2 kvs) (hk : keyOf d1 = some k) (h : Q (.bl (if neg then !(valD kvs k).isSome else (valD kvs k).isSome)) M) : R2A K (rInU K neg) d1 d2 M Q := rr_r (rr_l fun G H v1 v2 ok r1 r2 R q => by
  cases keyOf_eq hk
  obtain ⟨a, vs, rfl, rd, rk⟩ := isDk_at ok hd r2
  exact ⟨a, valV vs k, rfl, .inl ⟨vs, k, rd, rep_key r1, rfl⟩, by rw [valD_isSome k rk]; exact q _ _ _ _ _ h (Same.refl _) ok (.bl _)⟩)
theorem rr_inC {neg : Bool} {c : Nat} {z : Str} (h : Q (.bl (if neg then !decide (c ∈ z.cps.toList) else decide (c ∈ z.cps.toList))) M) : R2A K (rInU K neg) (.str ⟨#[c]⟩) (.str z) M Q := rr_r (rr_r fun G H v1 v2 ok r1 r2 R q => by
  cases r1; cases r2
  exact ⟨c, z, rfl, rfl, q _ _ _ _ _ h (Same.refl _) ok (.bl _)⟩)
/-- plain values -/
def flatD : D → Bool
  | .non => true | .bl _ => true | .int _ => true | .str _ => true
  | _ => false
def flD : D → V
  | .non => .non | .bl b => .bl b | .int i => .int i | .str x => .str x
  | _ => .non
theorem rep_flat {G : Hp} {v : V} {d : D} (h : flatD d = true) (r : Rep K G v d) : v = flD d := by cases r <;> first | rfl | (simp [flatD] at h)
theorem repAll_flat {G : Hp} : ∀ {vs : List V} {ds : List D}, ds.all flatD = true → RepAll K G vs ds → vs = ds.map flD
  | _, _, _, .nil => rfl
  | _, _, h, .cons r rs => by
    simp only [List.all_cons, Bool.and_eq_true] at h
    rw [rep_flat h.1 r, repAll_flat h.2 rs]; rfl
theorem flatV_fl {d : D} (h : flatD d = true) : flatV (flD d) = true := by cases d <;> first | rfl | (simp [flatD] at h)
theorem flatV_all {ds : List D} (h : ds.all flatD = true) : (ds.map flD).all flatV = true := by
  rw [List.all_map, List.all_eq_true]
  intro x hx
  exact flatV_fl (List.all_eq_true.mp h x hx)
def inDs (d : D) (ds : List D) : Bool := inV (flD d) (ds.map flD)
theorem rr_inS {neg : Bool} {ds : List D} (hd : IsSq M d2 ds) (h1 : flatD d1 = true) (h2 : ds.all flatD = true) (h : Q (.bl (if neg then !inDs d1 ds else inDs d1 ds)) M) : R2A K (rInU K neg) d1 d2 M Q := rr_l fun G H v1 v2 ok r1 r2 R q => by
  obtain ⟨a, vs, rfl, s, r⟩ := isSq_at ok hd r2
  cases rep_flat h1 r1
  cases repAll_flat h2 r
  exact ⟨a, _, rfl, s, flatV_fl h1, flatV_all h2, q _ _ _ _ _ h (Same.refl _) ok (.bl _)⟩
theorem inDs_str {x : Str} {xs : List Str} : inDs (.str x) (xs.map .str) = decide (x ∈ xs) := by
  unfold inDs inV
  induction xs with
  | nil => rfl
  | cons y ys ih =>
    simp only [List.map_cons, List.any_cons, ih]
    show (decide (y = x) || _) = _
    by_cases e : y = x
    · simp [e]
    · have e' : ¬ x = y := fun z => e z.symm
      simp [e, e']
theorem inDs_int {x : Int} {xs : List Int} : inDs (.int x) (xs.map .int) = decide (x ∈ xs) := by
  unfold inDs inV
  induction xs with
  | nil => rfl
  | cons y ys ih =>
    simp only [List.map_cons, List.any_cons, ih]
    show (_ || _) = _
    by_cases e : y = x
    · simp [e, eqV, flD]
    · have e' : ¬ x = y := fun z => e z.symm
      simp [e, e', eqV, flD]
end
/-- len of anything -/
def rLenU (K : PySem.W.Frag) : List V → Hp → VK → Prop := fun xs H Q => (∃ p ys, xs = [.ref p] ∧ (SqL K H p ys ∨ SqT K H p ys) ∧ Q (.int ys.length) H) ∨ (∃ z, xs = [.str z] ∧ z.length ≤ sizeLine ∧ Q (.int z.length) H) ∨ (∃ a kvs, xs = [.ref a] ∧ H a = some (.dK kvs) ∧ Q (.int kvs.length) H)
end
end Aw
namespace Aw
open PySem PySem.Spec PyProof.Rows L2
theorem le_M {n : Nat} (h : Nat.ble n 1000000 = true) : n ≤ 1000000 := Nat.le_of_ble_eq_true h
section
variable {X : Cx} {G0 : Hp} {δ : Dl} {M : Mm} {e a b c o k v : Expr} {es : List Expr} {Q : D → Mm → Prop} {QB : Bool → Mm → Prop} {QA : List D → Mm → Prop} {E : En} {p pos apos : Pos}
theorem ow_none {Qo : Option Int → Mm → Prop} (h : Qo none M) : OW X G0 none δ M Qo := h
theorem ow_some {Qo : Option Int → Mm → Prop} (h : EW X G0 e δ M fun d M' => ∃ i, d = .int i ∧ Qo (some i) M') : OW X G0 (some e) δ M Qo := h
theorem pws_nil {Qp : List (D × D) → Mm → Prop} (h : Qp [] M) : PWs X G0 δ [] [] M Qp := by unfold PWs; exact h
theorem pws_cons {ks : List (Option Expr)} {vs : List Expr} {Qp : List (D × D) → Mm → Prop} (h : EW X G0 k δ M fun kd M1 => EW X G0 v δ M1 fun vd M2 => PWs X G0 δ ks vs M2 fun r M3 => Qp ((kd, vd) :: r) M3) : PWs X G0 δ (some k :: ks) (v :: vs) M Qp := by unfold PWs; exact h
theorem sw_doc {x : Str} {j} {pos' : Pos} (h : E.nx δ M) : SW X G0 (.Expr (.Constant (.str x) j pos) pos') δ M E := SW.of ps_doc fun σ G H e0 sl ok R k1 k2 k3 k4 => k1 δ M σ G H h (Same.refl _) sl ok
/-- -n -/
def UA (K : PySem.W.Frag) (r : V → Hp → VK → Prop) (d : D) (M : Mm) (Q : D → Mm → Prop) : Prop :=
  ∀ G H v, Ok K G M H → Rep K G v d → ∀ R : VK, (∀ d M' v G' H', Q d M' → Same G G' → Ok K G' M' H' → Rep K G' v d → R v H') → r v H R
theorem ew_neg (h : EW X G0 a δ M fun d M1 => UA X.K (rU fun i => .int (-i)) d M1 Q) : EW X G0 (.UnaryOp .USub a pos) δ M Q :=
  EW.of (pe_un un_neg peS) fun σ G H e0 sl ok R k => h σ G H e0 sl ok _ fun d M1 v1 G1 H1 h1 e1 ok1 r1 => h1 G1 H1 v1 ok1 r1 R fun d M' v G' H' q e' => k d M' v G' H' q (e1.trans e')
theorem ew_inv (h : EW X G0 a δ M fun d M1 => UA X.K (rU fun i => .int (Builtin.bitNot i)) d M1 Q) : EW X G0 (.UnaryOp .Invert a pos) δ M Q :=
  EW.of (pe_un un_inv peS) fun σ G H e0 sl ok R k => h σ G H e0 sl ok _ fun d M1 v1 G1 H1 h1 e1 ok1 r1 => h1 G1 H1 v1 ok1 r1 R fun d M' v G' H' q e' => k d M' v G' H' q (e1.trans e')
theorem ru_I {K : PySem.W.Frag} {g : Int → Int} {i : Int} (h : Q (.int (g i)) M) : UA K (rU fun i => .int (g i)) (.int i) M Q := fun G H v ok r R k => by
  cases r
  exact ⟨i, rfl, k _ _ _ _ _ h (Same.refl _) ok (.int _)⟩
theorem ru_negI {K : PySem.W.Frag} {i : Int} (h : Q (.int (-i)) M) : UA K (rU fun i => .int (-i)) (.int i) M Q := ru_I h
def isNonD : D → Bool
  | .non => true
  | _ => false
theorem rr_isN {K : PySem.W.Frag} {d : D} (h : Q (.bl (isNonD d)) M) : R2A K (fun x y H Q => y = .non ∧ Q (.bl (decide (x = .non))) H) d .non M Q := fun G H v1 v2 ok r1 r2 R k => by
  cases r2
  refine ⟨rfl, ?_⟩
  have z : ∀ b, b = isNonD d → R (.bl b) H := fun b q => by rw [q]; exact k _ _ _ _ _ h (Same.refl _) ok (.bl _)
  cases r1 <;> exact z _ (by simp [isNonD])
theorem rr_notN {K : PySem.W.Frag} {d : D} (h : Q (.bl (!isNonD d)) M) : R2A K (fun x y H Q => y = .non ∧ Q (.bl (!decide (x = .non))) H) d .non M Q := fun G H v1 v2 ok r1 r2 R k => by
  cases r2
  refine ⟨rfl, ?_⟩
  have z : ∀ b, b = (!isNonD d) → R (.bl b) H := fun b q => by rw [q]; exact k _ _ _ _ _ h (Same.refl _) ok (.bl _)
  cases r1 <;> exact z _ (by simp [isNonD])
theorem valD_hit {α : Type} [DecidableEq α] {k : α} {v : D} {r : List (α × D)} : valD ((k, v) :: r) k = some v := by simp [valD]
theorem valD_miss {α : Type} [DecidableEq α] {k k' : α} {v : D} {r : List (α × D)} (h : k' ≠ k) : valD ((k', v) :: r) k = valD r k := by simp [valD, List.find?_cons, h]
theorem key_ne {x y : Str} (h : x ≠ y) : (Sum.inr x : Key) ≠ Sum.inr y := fun e => h (Sum.inr.inj e)
end

theorem range_fm {α β : Type} (g : α → Option β) : ∀ xs : List α, (List.range xs.length).filterMap (fun i => xs[i]?.bind g) = xs.filterMap g := fun xs => by
  have h : ∀ n, n ≤ xs.length → (List.range n).filterMap (fun i => xs[i]?.bind g) = (xs.take n).filterMap g := by
    intro n
    induction n with
    | zero => intro _; rfl
    | succ n ih =>
      intro hn
      rw [List.range_succ, List.filterMap_append, ih (by omega), List.take_add_one, List.filterMap_append]
      congr 1
      have e : xs[n]? = some (xs[n]'(by omega)) := List.getElem?_eq_getElem (by omega)
      rw [e]
      simp only [List.filterMap_cons, List.filterMap_nil, e, Option.bind_some, Option.toList_some]
  rw [h _ (Nat.le_refl _), List.take_length]
theorem range_map {α β : Type} (g : α → β) (xs : List α) : (List.range xs.length).filterMap (fun i => xs[i]?.map g) = xs.map g := by
  have h := range_fm (fun x => some (g x)) xs
  have e : xs.filterMap (fun x => some (g x)) = xs.map g := by rw [← List.filterMap_eq_map]; rfl
  rw [← e, ← h]
  congr 1
  funext i
  cases xs[i]? <;> rfl
/-- over a list: the items' images that are there -/
theorem lcI_fm {X : Cx} {G0 : Hp} {scope : Scope} {ifs : List Expr} {elt : Expr} {js : D → Dl} {ds : List D} {Cnd : Mm → Prop} {M1 : Mm} {Q : D → Mm → Prop} (g : D → Option D) (hn : ds.length ≤ 1000000) (hC : ∀ p o, M1 p = none → Cnd (mset M1 p o))
    (h : ∀ d M', d ∈ ds → (∃ p o, M1 p = none ∧ M' = mset M1 p o) → BTW X G0 scope ifs (js d) M' fun b M2 => (b = true → BEW X G0 scope elt (js d) M2 fun y M3 => M3 = M' ∧ g d = some y) ∧ (b = false → M2 = M' ∧ g d = none))
    (hq : Q (.lst (ds.filterMap g)) M1) : LcI X G0 scope ifs elt js ds.length (fun i x => ds[i]? = some x) Cnd M1 Q := by
  refine lcI_pure (fun i => ds[i]?.bind g) hn hC (fun i d M' hi hd hM => ?_) (by rw [range_fm]; exact hq)
  have := h d M' (List.mem_of_getElem? hd) hM
  rw [hd]
  exact this
theorem lcI_map {X : Cx} {G0 : Hp} {scope : Scope} {elt : Expr} {js : D → Dl} {ds : List D} {Cnd : Mm → Prop} {M1 : Mm} {Q : D → Mm → Prop} (g : D → D) (hn : ds.length ≤ 1000000) (hC : ∀ p o, M1 p = none → Cnd (mset M1 p o))
    (h : ∀ d M', d ∈ ds → (∃ p o, M1 p = none ∧ M' = mset M1 p o) → BEW X G0 scope elt (js d) M' fun y M3 => M3 = M' ∧ y = g d)
    (hq : Q (.lst (ds.map g)) M1) : LcI X G0 scope [] elt js ds.length (fun i x => ds[i]? = some x) Cnd M1 Q := by
  refine lcI_fm (fun d => some (g d)) hn hC (fun d M' hd hM => btw_nil ⟨fun _ => ?_, fun z => nomatch z⟩) (by rw [show ds.filterMap (fun d => some (g d)) = ds.map g from by rw [← List.filterMap_eq_map]; rfl]; exact hq)
  exact fun σ G H e0 sl ok R k => h d M' hd hM σ G H e0 sl ok R fun y M3 v G' H' q => k y M3 v G' H' ⟨q.1, by rw [q.2]⟩
/-! ### what draws come from -/
def tkd (c : Addr) (r sd : Int) : List (Key × D) := [(.inr "cells", .obj c), (.inr "rest", .int r), (.inr "seed", .int sd)]
theorem ncr : ("cells" : Str) ≠ "rest" := by decide +kernel
theorem ncs : ("cells" : Str) ≠ "seed" := by decide +kernel
theorem nrs : ("rest" : Str) ≠ "seed" := by decide +kernel
theorem tk_cells {c : Addr} {r sd : Int} : valD (tkd c r sd) (.inr "cells") = some (.obj c) := valD_hit
theorem tk_rest {c : Addr} {r sd : Int} : valD (tkd c r sd) (.inr "rest") = some (.int r) := (valD_miss (key_ne ncr)).trans valD_hit
theorem tk_seed {c : Addr} {r sd : Int} : valD (tkd c r sd) (.inr "seed") = some (.int sd) := (valD_miss (key_ne ncs)).trans ((valD_miss (key_ne nrs)).trans valD_hit)
theorem tk_put_rest {c : Addr} {r sd v : Int} : putD (tkd c r sd) (.inr "rest") (.int v) = tkd c v sd := by
  simp [putD, tkd, key_ne ncr, key_ne ncs, key_ne nrs, (key_ne nrs).symm]
theorem tk_put_seed {c : Addr} {r sd v : Int} : putD (tkd c r sd) (.inr "seed") (.int v) = tkd c r v := by
  simp [putD, tkd, key_ne ncr, key_ne ncs, key_ne nrs, (key_ne nrs).symm]
theorem tk_disp {c : Addr} {r sd : Int} : mergeD [] (tkd c r sd) = tkd c r sd := by
  simp [mergeD, putD, tkd, key_ne ncr, key_ne ncs, key_ne nrs]
structure TkS (M : Mm) (s c : Addr) : Prop where
  ne : s ≠ c
  ex : ∃ (ns : List Int) (r sd : Int), M s = some (.dK (tkd c r sd)) ∧ M c = some (.lst (ns.map .int)) ∧ (∀ n ∈ ns, 0 ≤ n) ∧ ns.length ≤ 63 ∧ 0 ≤ r ∧ 0 ≤ sd ∧ sd < 2147483647
def Off (s c : Addr) (M M' : Mm) : Prop := ∀ q, q ≠ s → q ≠ c → M' q = M q
theorem Off.refl {s c : Addr} {M : Mm} : Off s c M M := fun _ _ _ => rfl
theorem Off.trans {s c : Addr} {M M1 M2 : Mm} (a : Off s c M M1) (b : Off s c M1 M2) : Off s c M M2 := fun q h1 h2 => (b q h1 h2).trans (a q h1 h2)
theorem Off.set {s c p : Addr} {M M' : Mm} {o : Option MO} (a : Off s c M M') (h : p = s ∨ p = c) : Off s c M (mset M' p o) := fun q h1 h2 => by
  rw [mset_ne (by rcases h with rfl | rfl <;> assumption)]; exact a q h1 h2
theorem TkS.nes {M : Mm} {s c p : Addr} (t : TkS M s c) (h : M p = none) : p ≠ s ∧ p ≠ c := by
  obtain ⟨ns, r, sd, h1, h2, _⟩ := t.ex
  exact ⟨(fun e => by rw [e, h1] at h; cases h), (fun e => by rw [e, h2] at h; cases h)⟩
/-- a place that is none of the draws' -/
theorem TkS.neL {M : Mm} {s c p : Addr} {o : MO} (t : TkS M s c) (h : M p = some o) (ho : (∃ C fs, o = .ins C fs) ∨ (∃ t, o = .dT t)) : p ≠ s ∧ p ≠ c := by
  obtain ⟨ns, r, sd, h1, h2, _⟩ := t.ex
  refine ⟨fun e => ?_, fun e => ?_⟩
  · rw [e, h1] at h; cases h; rcases ho with ⟨_, _, z⟩ | ⟨_, z⟩ <;> cases z
  · rw [e, h2] at h; cases h; rcases ho with ⟨_, _, z⟩ | ⟨_, z⟩ <;> cases z
theorem TkS.other {M : Mm} {s c p : Addr} {o : Option MO} (t : TkS M s c) (h : p ≠ s ∧ p ≠ c) : TkS (mset M p o) s c := by
  obtain ⟨ns, r, sd, h1, h2, h3⟩ := t.ex
  exact ⟨t.ne, ns, r, sd, by rw [mset_ne h.1.symm]; exact h1, by rw [mset_ne h.2.symm]; exact h2, h3⟩
theorem Off.get {s c p : Addr} {M M' : Mm} (a : Off s c M M') (h : p ≠ s ∧ p ≠ c) : M' p = M p := a p h.1 h.2
theorem Off.other {s c p : Addr} {M M' : Mm} {o : Option MO} (a : Off s c M M') : Off s c (mset M p o) (mset M' p o) := fun q h1 h2 => by
  unfold mset; split
  · rfl
  · exact a q h1 h2
theorem Off.back {s c p : Addr} {M M' : Mm} {o : Option MO} (a : Off s c (mset M p o) M') (h : M p = none) : Off s c M (mset M' p none) := fun q h1 h2 => by
  by_cases e : q = p
  · subst e; rw [mset_same, h]
  · rw [mset_ne e, a q h1 h2, mset_ne e]
def S_start : ASp := fun ds M A _ => ∃ ns : List Int, ds = [.rl (ns.map .int)] ∧ ns.length ≤ 63 ∧ ∀ s c M', TkS M' s c → M s = none → M c = none → Off s c M M' → A (.obj s) M'
def S_take : ASp := fun ds M A _ => ∃ (s c : Addr) (m : Int), ds = [.obj s, .int m] ∧ TkS M s c ∧ m < 2 ^ 200 ∧ ∀ (n : Int) (M' : Mm), TkS M' s c → Off s c M M' → 0 ≤ n → (n = 0 ∨ n < m) → A (.int n) M'
end Aw
namespace Lw
open PySem PySem.Spec PyProof.Rows L2 Aw

def topS (i : Nat) : Stmt := PySem.Challenge.pw_linkscale_k53_splits_counted.main.body.getD i (.Pass ⟨0, 0, 0, 0⟩)

abbrev s_splits_of : Stmt := topS 1
theorem sc_splits_of : FnScope ["paper"] ["paper"] (defScope s_splits_of) := ⟨rfl, rfl, rfl, by decide +kernel, rfl, by decide +kernel, by decide +kernel⟩
abbrev s_splits_in : Stmt := topS 2
theorem sc_splits_in : FnScope ["node", "end"] ["node"] (defScope s_splits_in) := ⟨rfl, rfl, rfl, by decide +kernel, rfl, by decide +kernel, by decide +kernel⟩
abbrev s_start : Stmt := topS 4
theorem sc_start : FnScope ["_law_script", "_law_seed", "_law_cell"] ["_law_script"] (defScope s_start) := ⟨rfl, rfl, rfl, by decide +kernel, rfl, by decide +kernel, by decide +kernel⟩
abbrev s_take : Stmt := topS 5
theorem sc_take : FnScope ["_law_state", "_law_many", "_law_cells", "_law_rest", "_law_seed", "_law_number"] ["_law_state", "_law_many"] (defScope s_take) := ⟨rfl, rfl, rfl, by decide +kernel, rfl, by decide +kernel, by decide +kernel⟩
abbrev s_tree : Stmt := topS 6
theorem sc_tree : FnScope ["_law_state", "_law_depth", "_law_steps", "_law_first", "_law_second"] ["_law_state", "_law_depth"] (defScope s_tree) := ⟨rfl, rfl, rfl, by decide +kernel, rfl, by decide +kernel, by decide +kernel⟩
abbrev s_copy : Stmt := topS 7
theorem sc_copy : FnScope ["_law_node", "_law_end"] ["_law_node"] (defScope s_copy) := ⟨rfl, rfl, rfl, by decide +kernel, rfl, by decide +kernel, by decide +kernel⟩
abbrev s_law : Stmt := topS 8
theorem sc_law : FnScope ["_law_script", "_law_state", "_law_k", "_law_tree_here", "_law_paper", "_law_copy_here", "_law_lines"] ["_law_script"] (defScope s_law) := ⟨rfl, rfl, rfl, by decide +kernel, rfl, by decide +kernel, by decide +kernel⟩

structure Bt (mg : Str → Option Value) : Prop where
  n_len : mg "len" = none
  n_int : mg "int" = none
  n_abs : mg "abs" = none
  n_list : mg "list" = none
  n_range : mg "range" = none


/-! ### trees of papers -/
inductive Tr where
  | leaf (st : List D)
  | node (st : List D) (a b : Tr)
def Tr.D : Tr → Aw.D
  | .leaf st => .tup [.lst st, .tup [.str "empty", .str "x", .str "y"]]
  | .node st a b => .tup [.lst st, .tup [.str "split", .str "x", .str "z", .lst [.str "before"], a.D, b.D]]
def Tr.end : Tr → List Aw.D
  | .leaf _ => [.str "empty", .str "x", .str "y"]
  | .node _ a b => [.str "split", .str "x", .str "z", .lst [.str "before"], a.D, b.D]
def Tr.st : Tr → List Aw.D
  | .leaf st => st
  | .node st _ _ => st
def Tr.wd : Tr → Str
  | .leaf _ => "empty"
  | .node _ _ _ => "split"
theorem Tr.D_eq (t : Tr) : t.D = .tup [.lst t.st, .tup t.end] := by cases t <;> rfl
theorem Tr.end0 (t : Tr) : atI t.end 0 = some (.str t.wd) := by cases t <;> rfl
def Tr.splits : Tr → Int
  | .leaf _ => 0
  | .node _ a b => 1 + a.splits + b.splits
def Tr.dep : Tr → Nat
  | .leaf _ => 0
  | .node _ a b => max a.dep b.dep + 1
def StOk (st : List D) : Prop := D.isPyAll st = true ∧ D.deepAll st ≤ 2
def Tr.Ok : Tr → Prop
  | .leaf st => StOk st
  | .node st a b => StOk st ∧ a.Ok ∧ b.Ok
theorem py_empty : PyData.strOk "empty" = true := by decide +kernel
theorem py_x : PyData.strOk "x" = true := by decide +kernel
theorem py_y : PyData.strOk "y" = true := by decide +kernel
theorem py_z : PyData.strOk "z" = true := by decide +kernel
theorem py_split : PyData.strOk "split" = true := by decide +kernel
theorem py_before : PyData.strOk "before" = true := by decide +kernel
theorem py_no : PyData.strOk "no" = true := by decide +kernel
theorem Tr.eqs : ∀ t : Tr, t.Ok → t.D.isPy = true ∧ t.D.deep ≤ 2 * t.dep + 4
  | .leaf st, h => by
    refine ⟨by simp [Tr.D, D.isPy, D.isPyAll, h.1, py_empty, py_x, py_y], ?_⟩
    have := h.2
    simp [Tr.D, D.deep, D.deepAll]
    omega
  | .node st a b, h => by
    obtain ⟨h1, ha, hb⟩ := h
    obtain ⟨a1, a2⟩ := Tr.eqs a ha
    obtain ⟨b1, b2⟩ := Tr.eqs b hb
    refine ⟨by simp [Tr.D, D.isPy, D.isPyAll, h1.1, py_split, py_x, py_z, py_before, a1, b1], ?_⟩
    have := h1.2
    simp [Tr.D, D.deep, D.deepAll, Tr.dep]
    omega
def S_in (n : Nat) : ASp := fun ds M A _ => ∃ t : Tr, ds = [t.D] ∧ t.dep ≤ n ∧ A (.int t.splits) M
def S_of (n : Nat) : ASp := fun ds M A _ => ∃ (x : Str) (d : D), ds = [.tup [.str x, d]] ∧ (x = "yes" → A (.int 0) M) ∧ (x ≠ "yes" → ∃ t : Tr, d = t.D ∧ t.dep ≤ n ∧ A (.int t.splits) M)
def S_copy (n : Nat) : ASp := fun ds M A _ => ∃ t : Tr, ds = [t.D] ∧ t.dep ≤ n ∧ A t.D M
def S_tree (n : Nat) : ASp := fun ds M A _ => ∃ (s c : Addr) (m : Int), ds = [.obj s, .int m] ∧ TkS M s c ∧ 0 ≤ m ∧ m ≤ n ∧ ∀ (t : Tr) (M' : Mm), t.dep ≤ n → t.Ok → TkS M' s c → Off s c M M' → A (.lst [t.D, .int t.splits]) M'
def S_law : ASp := fun ds M A _ => ∃ ns : List Int, ds = [.rl (ns.map .int)] ∧ ns.length ≤ 63 ∧ ∀ M', A (.bl true) M'
theorem ne_es : ("empty" : Str) ≠ "split" := by decide +kernel
theorem ne_ny : ("no" : Str) ≠ "yes" := by decide +kernel

section
variable {P : Program} {w : World} {K : PySem.W.Frag} {mg : Str → Option Value} {base : Heap}

theorem df_take (F : Fn0 K mg "_law_take" s_take ["_law_state", "_law_many"]) (T : Bt mg) : Df P w K mg base 1 "_law_take" ["_law_state", "_law_many"] S_take := by
  refine df_ok F sc_take fun f cdv A' outer s0 H E G0 ds M A Z hr hl hs tz => ?_
  obtain ⟨s, c, m, rfl, tk, hm, k⟩ := hs
  have hu := hu_of hr
  have nd := sc_take.nd
  obtain ⟨ne, ns, r, sd, h1, h2, h3, h4, h5, h6, h7⟩ := id tk
  refine sws_cons (sw_if (tw_cmp op_lt (by rfl) ?_))
  refine ew_name 1 rfl (ew_int (rr_I0b ⟨_, rfl, fun hb => ?_, fun hb => ?_⟩))
  · exact sws_cons (sw_ret (ew_int (k 0 M tk Off.refl (Int.le_refl _) (.inl rfl))))
  have hm2 : 2 ≤ m := by have := of_decide_eq_false hb; omega
  refine sws_nil ?_
  refine sws_cons (sw_set 2 (ew_dget hu (fun _ _ => rfl) (ew_name 0 rfl (ew_str ⟨_, _, _, .inr ⟨s, rfl, h1⟩, rfl, tk_cells, ?_⟩))) nd)
  refine sws_cut (fun δ' M' => δ' = [some (.obj s), some (.int m), some (.obj c), none, none, none] ∧ TkS M' s c ∧ Off s c M M') (sw_if (tw_ww (ww_and (tw_cmp op_eq (by rfl) ?_)))) ?_
  · refine ew_dget hu (fun _ _ => rfl) ?_
    refine ew_name 0 rfl ?_
    refine ew_str ⟨_, _, _, .inr ⟨s, rfl, h1⟩, rfl, tk_rest, ?_⟩
    refine ew_int ?_
    refine rr_eq rfl ⟨_, rfl, fun hb => ?_, fun hb => ?_⟩
    · refine ww_and1 (tw_cmp op_gt (by rfl) ?_)
      refine ew_callB call_len_seq T.n_len PySem.boot_len ?_
      refine aw_cons (ew_name 2 rfl (aw_nil (ca_len (.inr (.inr (.inl ⟨c, rfl, h2⟩))) ?_)))
      refine ew_int (rr_I0b ⟨_, rfl, fun hb2 => ?_, fun hb2 => ?_⟩)
      · have hlen := of_decide_eq_true hb2
        obtain ⟨n0, ns', rfl⟩ : ∃ n0 ns', ns = n0 :: ns' := by
          cases ns with
          | nil => exact absurd hlen (by simp)
          | cons a b => exact ⟨a, b, rfl⟩
        refine sws_cons (sw_dput hu ?_)
        refine ew_bm PySem.F.plainAttrs_list PySem.F.slot_list_pop PySem.F.type_list_pop mt_popAt ?_
        refine ew_name 2 rfl ⟨.inl ⟨rfl, _, .inr (.inl ⟨c, rfl, h2⟩)⟩, ?_⟩
        refine aw_cons (ew_int (aw_nil (ma_popAt (k := 0) h2 (by decide) (by decide) (by simp [seqIndex?]) rfl ?_)))
        refine ew_name 0 rfl (ew_str ⟨s, _, _, rfl, (mset_ne ne).trans h1, rfl, (show 3 ≤ 1000000 by decide), ?_⟩)
        rw [tk_put_rest]
        refine sws_nil ?_
        exact ⟨rfl, ⟨ne, ns', n0, sd, mset_same, by rw [mset_ne (Ne.symm ne), mset_same]; rfl, fun n hn => h3 n (List.mem_cons_of_mem _ hn), by simp at h4; omega, h3 n0 List.mem_cons_self, h6, h7⟩, (Off.refl.set (.inr rfl)).set (.inl rfl)⟩
      · (refine sws_nil ?_; exact ⟨rfl, tk, Off.refl⟩)
    · refine ⟨(fun z => nomatch z), fun _ => ?_⟩
      refine sws_nil ?_
      exact ⟨rfl, tk, Off.refl⟩
  · rintro _ M' ⟨rfl, tk', of'⟩
    obtain ⟨ne', ns', r', sd', g1, g2, g3, g4, g5, g6, g7⟩ := id tk'
    refine sws_cons (sw_set 3 (ew_dget hu (fun _ _ => rfl) (ew_name 0 rfl (ew_str ⟨_, _, _, .inr ⟨s, rfl, g1⟩, rfl, tk_rest, ?_⟩))) nd)
    refine sws_cons (sw_if (tw_cmp op_gt (by rfl) (ew_name 3 rfl (ew_int (rr_I0b ⟨_, rfl, fun hb => ?_, fun hb => ?_⟩)))))
    · have hb' := of_decide_eq_true hb
      refine sws_cons (sw_dput hu (ew_op op_fdivW (ew_name 3 rfl (ew_name 1 rfl (rr_Ii ?_ (ew_name 0 rfl (ew_str ⟨s, _, _, rfl, g1, rfl, (show 3 ≤ 1000000 by decide), ?_⟩)))))))
      · exact wide_div (b := 200) (by omega) (by omega) (by decide) (by decide)
      rw [tk_put_rest]
      have tk2 : TkS (mset M' s (some (.dK (tkd c (r' / m) sd')))) s c := ⟨ne, ns', r' / m, sd', mset_same, by rw [mset_ne (Ne.symm ne)]; exact g2, g3, g4, Int.ediv_nonneg (by omega) (by omega), g6, g7⟩
      refine sws_cons (sw_ret (ew_op op_mod (ew_callT call_int1 T.n_int PyProof.Rows.boot_int (aw_cons (ew_name 3 rfl (aw_nil (ca_int (ew_name 1 rfl (rr_Ii (show (0 : Int) < m by omega) ?_)))))))))
      exact k _ _ tk2 (of'.set (.inl rfl)) (Int.emod_nonneg _ (by omega)) (.inr (Int.emod_lt_of_pos _ (by omega)))
    refine sws_nil ?_
    refine sws_cons (sw_set 4 (ew_op op_mod (ew_callT call_int1 T.n_int PyProof.Rows.boot_int (aw_cons (ew_op op_add (ew_op op_mul (ew_dget hu (fun _ _ => rfl) (ew_name 0 rfl (ew_str ⟨_, _, _, .inr ⟨s, rfl, g1⟩, rfl, tk_seed, ?_⟩))))))) ) nd)
    refine ew_int (rr_Ii (.inr ⟨by decide, by decide⟩) (ew_int (rr_I0i (aw_nil (ca_int (ew_int (rr_Ii (by decide) ?_)))))))
    refine sws_cons (sw_dput hu (ew_name 4 rfl (ew_name 0 rfl (ew_str ⟨s, _, _, rfl, g1, rfl, (show 3 ≤ 1000000 by decide), ?_⟩))))
    rw [tk_put_seed]
    have tk2 : TkS (mset M' s (some (.dK (tkd c r' ((sd' * 69621 + 11) % 2147483647))))) s c := ⟨ne, ns', r', _, mset_same, by rw [mset_ne (Ne.symm ne)]; exact g2, g3, g4, g5, Int.emod_nonneg _ (by decide), Int.emod_lt_of_pos _ (by decide)⟩
    generalize hsd : (sd' * 69621 + 11) % 2147483647 = sd2 at *
    have hsd0 : 0 ≤ sd2 ∧ sd2 < 2147483647 := by omega
    refine sws_cons (sw_set 5 (ew_op op_fdiv (ew_name 4 rfl (ew_int (rr_Ii ⟨by decide, by decide⟩ ?_)))) nd)
    refine sws_cons (sw_if (tw_cmp op_gt (by rfl) (ew_name 1 rfl (ew_op op_pow (ew_int (ew_int (rr_Ii ⟨by decide, by decide, by decide⟩ (rr_I0b ⟨_, rfl, fun hb => ?_, fun hb => ?_⟩))))))))
    · refine sws_cons (sw_set 5 (ew_op op_pow (ew_name 5 rfl (ew_int (rr_Ii ⟨by decide, by decide, ?_⟩ ?_)))) nd)
      · have : (2 : Nat) ^ 64 = 18446744073709551616 := by decide
        omega
      refine sws_nil ?_
      refine sws_cons (sw_ret (ew_op op_mod (ew_callT call_int1 T.n_int PyProof.Rows.boot_int (aw_cons (ew_name 5 rfl (aw_nil (ca_int (ew_name 1 rfl (rr_Ii (show (0 : Int) < m by omega) ?_)))))))))
      exact k _ _ tk2 (of'.set (.inl rfl)) (Int.emod_nonneg _ (by omega)) (.inr (Int.emod_lt_of_pos _ (by omega)))
    · refine sws_nil ?_
      refine sws_cons (sw_ret (ew_op op_mod (ew_callT call_int1 T.n_int PyProof.Rows.boot_int (aw_cons (ew_name 5 rfl (aw_nil (ca_int (ew_name 1 rfl (rr_Ii (show (0 : Int) < m by omega) ?_)))))))))
      exact k _ _ tk2 (of'.set (.inl rfl)) (Int.emod_nonneg _ (by omega)) (.inr (Int.emod_lt_of_pos _ (by omega)))

theorem df_start (F : Fn0 K mg "_law_start" s_start ["_law_script"]) (T : Bt mg)  : Df P w K mg base (0 + 1) "_law_start" ["_law_script"] (S_start) := by
  refine df_ok F sc_start fun f cdv A0 outer s0 H0 E0 G0 ds M A Z hr hl hs tz => ?_
  have nd := sc_start.nd
  obtain ⟨ns, rfl, hl63, k⟩ := hs
  -- 11
  refine sws_cons (sw_set 1 ?_ nd)
  refine ew_int ?_
  -- 12
  refine sws_cons (sw_for ?_ (passes_of rfl))
  refine iw_rl ?_
  refine ew_name 0 rfl ?_
  refine ⟨_, rfl, ?_⟩
  refine ⟨fun i δ' M' => ∃ (sd : Int) (z : Option D), δ' = [some (.rl (ns.map .int)), some (.int sd), z] ∧ M = M' ∧ 0 ≤ sd ∧ sd < 2147483647, ⟨5, none, rfl, rfl, by decide, by decide⟩, fun _ _ _ _ _ => trivial, ?_, ?_⟩
  · skip
    rintro i _ _ d hi hd ⟨sd, z, rfl, rfl, h1, h2⟩
    obtain ⟨n, hn, rfl⟩ : ∃ n, ns[i]? = some n ∧ d = .int n := by
      rw [List.getElem?_map] at hd
      cases q : ns[i]? with
      | none => rw [q] at hd; cases hd
      | some n => rw [q] at hd; exact ⟨n, rfl, (Option.some.inj hd).symm⟩
    refine gw_name 2 nd ?_
    -- 13
    refine sws_cons (sw_set 1 ?_ nd)
    refine ew_op op_mod ?_
    refine ew_callT call_int1 T.n_int PyProof.Rows.boot_int ?_
    refine aw_cons ?_
    refine ew_op u_add ?_
    refine ew_op u_add ?_
    refine ew_op u_mul ?_
    refine ew_name 1 rfl ?_
    refine ew_int ?_
    refine rr_mulI (.inr ⟨by decide, by decide⟩) ?_
    refine ew_op u_mul ?_
    refine ew_name 2 rfl ?_
    refine ew_int ?_
    first | refine rr_mulI (.inr ⟨by decide, by decide⟩) ?_ | refine rr_mulI (.inl ⟨by decide, by decide⟩) ?_ | refine rr_mulI (by first | exact .inl ⟨by omega, by omega⟩ | exact .inr ⟨by omega, by omega⟩) ?_ | refine rr_mulL (.inl rfl) (by omega) (by omega) (by simp; omega) ?_
    first | refine rr_addI ?_ | refine rr_addL (.inl rfl) (.inl rfl) (by simp) ?_ | refine rr_addS (by simp) ?_
    refine ew_int ?_
    first | refine rr_addI ?_ | refine rr_addL (.inl rfl) (.inl rfl) (by simp) ?_ | refine rr_addS (by simp) ?_
    refine aw_nil ?_
    refine ca_int ?_
    refine ew_int ?_
    refine rr_Ii (by first | decide | omega | exact ⟨by decide, by decide⟩ | exact ⟨by omega, by omega⟩ | exact ⟨by decide, by decide, by decide⟩ | exact ⟨by decide, by decide, by omega⟩ | exact ⟨by omega, by omega, by omega⟩) ?_
    refine sws_nil ?_
    exact ⟨_, _, rfl, rfl, Int.emod_nonneg _ (by decide), Int.emod_lt_of_pos _ (by decide)⟩
  · skip
    rintro _ _ ⟨sd, z, rfl, rfl, h1, h2⟩
    -- 14
    refine sws_cons (sw_ret ?_)
    refine ew_disp fun pd hpd => ?_
    refine pws_cons ?_
    refine ew_str ?_
    refine ew_lc [("_law_cell", 2)] 2 nd (blkOk_by (N := ["_law_script", "_law_seed", "_law_cell"]) (sc := defScope s_start) (by decide +kernel)) ?_
    refine iw_rl ?_
    refine ew_name 0 rfl ?_
    refine ⟨_, rfl, ?_⟩
    refine lcI_pureM (fun i => ((ns.map D.int)[i]?).map fun d => match d with | .int n => D.int (if n < 0 then -n else n) | d => d) (by simp; omega) (fun _ _ _ => trivial) ?_ ?_
    · skip
      rintro i d _ hi hd ⟨p, o, hp, rfl⟩
      have hd' := hd
      obtain ⟨n, hn, rfl⟩ : ∃ n, ns[i]? = some n ∧ d = .int n := by
        rw [List.getElem?_map] at hd
        cases q : ns[i]? with
        | none => rw [q] at hd; cases hd
        | some n => rw [q] at hd; exact ⟨n, rfl, (Option.some.inj hd).symm⟩
      refine btw_nil ⟨fun _ => ?_, (fun z => nomatch z)⟩
      refine bew fun s2 H2 C2 cl2 fp2 => ?_
      refine ew_callB call_abs T.n_abs (by decide +kernel) ?_
      refine aw_cons ?_
      refine ew_name 2 rfl ?_
      refine aw_nil ?_
      refine ca_abs ?_
      exact ⟨rfl, by rw [hd']; rfl⟩
    · skip
      intro pc hpc
      rw [range_map, List.map_map]
      refine pws_cons ?_
      refine ew_str ?_
      refine ew_int ?_
      refine pws_cons ?_
      refine ew_str ?_
      refine ew_name 1 rfl ?_
      refine pws_nil ?_
      have hne : pd ≠ pc := fun z => by subst z; rw [mset_same] at hpc; cases hpc
      have hpc0 : M pc = none := by rw [← hpc]; exact (mset_ne hne.symm).symm
      refine ⟨(mset_ne hne).trans mset_same, tkd pc 0 sd, rfl, (show 3 ≤ 15 by decide), ?_⟩
      rw [tk_disp]
      refine k pd pc _ ⟨hne, ns.map (fun n => if n < 0 then -n else n), 0, sd, mset_same, ?_, ?_, by simpa using hl63, Int.le_refl _, h1, h2⟩ hpd hpc0 fun q h1 h2 => ?_
      · rw [mset_ne hne.symm, mset_same, List.map_map]; rfl
      · intro n hn
        obtain ⟨m, _, rfl⟩ := List.mem_map.mp hn
        split <;> omega
      · rw [mset_ne h1, mset_ne h2, mset_ne h1]

theorem df_splits_in_step (F : Fn0 K mg "splits_in" s_splits_in ["node"]) (T : Bt mg) {n : Nat} (IH : ∀ m, n = m + 1 → Df P w K mg base (m + 1) "splits_in" ["node"] (S_in m)) : Df P w K mg base (n + 1) "splits_in" ["node"] (S_in n) := by
  refine df_ok F sc_splits_in fun f cdv A0 outer s0 H0 E0 G0 ds M A Z hr hl hs tz => ?_
  have nd := sc_splits_in.nd
  obtain ⟨t, rfl, hd, k⟩ := hs
  rw [Tr.D_eq]
  -- 5
  refine sws_cons (sw_set 1 ?_ nd)
  refine ew_ix (u_ix hr) (fun _ _ => rfl) ?_
  refine ew_name 0 rfl ?_
  refine ew_int ?_
  first | refine rr_uT rfl ?_ | refine rr_uL rfl ?_
  -- 6
  refine sws_cons (sw_if ?_)
  refine tw_cmp (u_ne hr) (by rfl) ?_
  refine ew_ix (u_ix hr) (fun _ _ => rfl) ?_
  refine ew_name 1 rfl ?_
  refine ew_int ?_
  refine rr_uT t.end0 ?_
  refine ew_str ?_
  first | refine rr_neS rfl ?_ | refine rr_neQ (by assumption) (by assumption) ?_
  refine ⟨_, rfl, fun hb1 => ?_, fun hb1 => ?_⟩
  · skip
    -- 7
    refine sws_cons (sw_ret ?_)
    refine ew_int ?_
    cases t with
    | leaf st => exact k
    | node st a b => simp [eqSc, Tr.wd] at hb1
  · skip
    refine sws_nil ?_
    -- 8
    obtain ⟨st, a, b, rfl⟩ : ∃ st a b, t = .node st a b := by
      cases t with
      | leaf st => simp [eqSc, Tr.wd, ne_es] at hb1
      | node st a b => exact ⟨st, a, b, rfl⟩
    obtain ⟨m, rfl⟩ : ∃ m, n = m + 1 := by
      cases n with
      | zero => simp [Tr.dep] at hd
      | succ m => exact ⟨m, rfl⟩
    have D_splits_in := IH m rfl
    have hab : a.dep ≤ m ∧ b.dep ≤ m := by simp [Tr.dep] at hd; omega
    refine sws_cons (sw_ret ?_)
    refine ew_op u_add ?_
    refine ew_op u_add ?_
    refine ew_int ?_
    refine ew_callD D_splits_in hr (Nat.le_refl _) tz0 ?_
    refine aw_cons ?_
    refine ew_ix (u_ix hr) (fun _ _ => rfl) ?_
    refine ew_name 1 rfl ?_
    refine ew_int ?_
    first | refine rr_uT rfl ?_ | refine rr_uL rfl ?_
    refine aw_nil ?_
    refine ⟨rfl, a, rfl, hab.1, ?_⟩
    first | refine rr_addI ?_ | refine rr_addL (.inl rfl) (.inl rfl) (by simp) ?_ | refine rr_addS (by simp) ?_
    refine ew_callD D_splits_in hr (Nat.le_refl _) tz0 ?_
    refine aw_cons ?_
    refine ew_ix (u_ix hr) (fun _ _ => rfl) ?_
    refine ew_name 1 rfl ?_
    refine ew_int ?_
    first | refine rr_uT rfl ?_ | refine rr_uL rfl ?_
    refine aw_nil ?_
    refine ⟨rfl, b, rfl, hab.2, ?_⟩
    first | refine rr_addI ?_ | refine rr_addL (.inl rfl) (.inl rfl) (by simp) ?_ | refine rr_addS (by simp) ?_
    exact k

theorem df_splits_in (F : Fn0 K mg "splits_in" s_splits_in ["node"]) (T : Bt mg) : ∀ n, Df P w K mg base (n + 1) "splits_in" ["node"] (S_in n)
  | 0 => df_splits_in_step F T (fun m h => by cases h)
  | n + 1 => df_splits_in_step F T (fun m h => by cases h; exact df_splits_in F T n)

theorem df_splits_of (F : Fn0 K mg "splits_of" s_splits_of ["paper"]) (T : Bt mg) (D_splits_in : Df P w K mg base (5) "splits_in" ["node"] (S_in 4)) : Df P w K mg base (5 + 1) "splits_of" ["paper"] (S_of 4) := by
  refine df_ok F sc_splits_of fun f cdv A0 outer s0 H0 E0 G0 ds M A Z hr hl hs tz => ?_
  have nd := sc_splits_of.nd
  obtain ⟨x, d, rfl, k1, k2⟩ := hs
  -- 3
  refine sws_cons (sw_ret ?_)
  refine ew_ifExp ?_
  refine tw_cmp (u_eq hr) (by rfl) ?_
  refine ew_ix (u_ix hr) (fun _ _ => rfl) ?_
  refine ew_name 0 rfl ?_
  refine ew_int ?_
  first | refine rr_uT rfl ?_ | refine rr_uL rfl ?_
  refine ew_str ?_
  first | refine rr_eqS rfl ?_ | refine rr_eqQ (by assumption) (by assumption) ?_
  refine ⟨_, rfl, fun hb1 => ?_, fun hb1 => ?_⟩
  · skip
    refine ew_int ?_
    exact k1 (by simpa [eqSc] using hb1)
  · skip
    refine ew_callD D_splits_in hr (by decide) tz0 ?_
    refine aw_cons ?_
    refine ew_ix (u_ix hr) (fun _ _ => rfl) ?_
    refine ew_name 0 rfl ?_
    refine ew_int ?_
    first | refine rr_uT rfl ?_ | refine rr_uL rfl ?_
    refine aw_nil ?_
    obtain ⟨t, rfl, ht, k⟩ := k2 (by simpa [eqSc] using hb1)
    refine ⟨rfl, t, rfl, ht, ?_⟩
    exact k

theorem df_copy_step (F : Fn0 K mg "_law_copy" s_copy ["_law_node"]) (T : Bt mg) {n : Nat} (IH : ∀ m, n = m + 1 → Df P w K mg base (m + 1) "_law_copy" ["_law_node"] (S_copy m)) : Df P w K mg base (n + 1) "_law_copy" ["_law_node"] (S_copy n) := by
  refine df_ok F sc_copy fun f cdv A0 outer s0 H0 E0 G0 ds M A Z hr hl hs tz => ?_
  have nd := sc_copy.nd
  obtain ⟨t, rfl, hd, k⟩ := hs
  rw [Tr.D_eq]
  -- 39
  refine sws_cons (sw_set 1 ?_ nd)
  refine ew_ix (u_ix hr) (fun _ _ => rfl) ?_
  refine ew_name 0 rfl ?_
  refine ew_int ?_
  first | refine rr_uT rfl ?_ | refine rr_uL rfl ?_
  -- 40
  refine sws_cons (sw_if ?_)
  refine tw_cmp (u_ne hr) (by rfl) ?_
  refine ew_ix (u_ix hr) (fun _ _ => rfl) ?_
  refine ew_name 1 rfl ?_
  refine ew_int ?_
  refine rr_uT t.end0 ?_
  refine ew_str ?_
  first | refine rr_neS rfl ?_ | refine rr_neQ (by assumption) (by assumption) ?_
  refine ⟨_, rfl, fun hb1 => ?_, fun hb1 => ?_⟩
  · skip
    -- 41
    refine sws_cons (sw_ret ?_)
    refine ew_tup ?_
    refine aw_cons ?_
    refine ew_callT call_list_of T.n_list (by decide +kernel) ?_
    refine aw_cons ?_
    refine ew_ix (u_ix hr) (fun _ _ => rfl) ?_
    refine ew_name 0 rfl ?_
    refine ew_int ?_
    first | refine rr_uT rfl ?_ | refine rr_uL rfl ?_
    refine aw_nil ?_
    first | refine ca_list (.inl rfl) ?_ | refine ca_list (.inr (.inl rfl)) ?_
    refine aw_cons ?_
    refine ew_name 1 rfl ?_
    refine aw_nil ?_
    refine ⟨le_M rfl, ?_⟩
    rw [Tr.D_eq] at k
    exact k
  · skip
    refine sws_nil ?_
    -- 42
    obtain ⟨st, a, b, rfl⟩ : ∃ st a b, t = .node st a b := by
      cases t with
      | leaf st => simp [eqSc, Tr.wd, ne_es] at hb1
      | node st a b => exact ⟨st, a, b, rfl⟩
    obtain ⟨m, rfl⟩ : ∃ m, n = m + 1 := by
      cases n with
      | zero => simp [Tr.dep] at hd
      | succ m => exact ⟨m, rfl⟩
    have D_copy := IH m rfl
    have hab : a.dep ≤ m ∧ b.dep ≤ m := by simp [Tr.dep] at hd; omega
    refine sws_cons (sw_ret ?_)
    refine ew_tup ?_
    refine aw_cons ?_
    refine ew_callT call_list_of T.n_list (by decide +kernel) ?_
    refine aw_cons ?_
    refine ew_ix (u_ix hr) (fun _ _ => rfl) ?_
    refine ew_name 0 rfl ?_
    refine ew_int ?_
    first | refine rr_uT rfl ?_ | refine rr_uL rfl ?_
    refine aw_nil ?_
    first | refine ca_list (.inl rfl) ?_ | refine ca_list (.inr (.inl rfl)) ?_
    refine aw_cons ?_
    refine ew_tup ?_
    refine aw_cons ?_
    refine ew_str ?_
    refine aw_cons ?_
    refine ew_ix (u_ix hr) (fun _ _ => rfl) ?_
    refine ew_name 1 rfl ?_
    refine ew_int ?_
    first | refine rr_uT rfl ?_ | refine rr_uL rfl ?_
    refine aw_cons ?_
    refine ew_ix (u_ix hr) (fun _ _ => rfl) ?_
    refine ew_name 1 rfl ?_
    refine ew_int ?_
    first | refine rr_uT rfl ?_ | refine rr_uL rfl ?_
    refine aw_cons ?_
    refine ew_callT call_list_of T.n_list (by decide +kernel) ?_
    refine aw_cons ?_
    refine ew_ix (u_ix hr) (fun _ _ => rfl) ?_
    refine ew_name 1 rfl ?_
    refine ew_int ?_
    first | refine rr_uT rfl ?_ | refine rr_uL rfl ?_
    refine aw_nil ?_
    first | refine ca_list (.inl rfl) ?_ | refine ca_list (.inr (.inl rfl)) ?_
    refine aw_cons ?_
    refine ew_callD D_copy hr (Nat.le_refl _) tz0 ?_
    refine aw_cons ?_
    refine ew_ix (u_ix hr) (fun _ _ => rfl) ?_
    refine ew_name 1 rfl ?_
    refine ew_int ?_
    first | refine rr_uT rfl ?_ | refine rr_uL rfl ?_
    refine aw_nil ?_
    refine ⟨rfl, a, rfl, hab.1, ?_⟩
    refine aw_cons ?_
    refine ew_callD D_copy hr (Nat.le_refl _) tz0 ?_
    refine aw_cons ?_
    refine ew_ix (u_ix hr) (fun _ _ => rfl) ?_
    refine ew_name 1 rfl ?_
    refine ew_int ?_
    first | refine rr_uT rfl ?_ | refine rr_uL rfl ?_
    refine aw_nil ?_
    refine ⟨rfl, b, rfl, hab.2, ?_⟩
    refine aw_nil ?_
    refine ⟨le_M rfl, ?_⟩
    refine aw_nil ?_
    refine ⟨le_M rfl, ?_⟩
    exact k

theorem df_copy (F : Fn0 K mg "_law_copy" s_copy ["_law_node"]) (T : Bt mg) : ∀ n, Df P w K mg base (n + 1) "_law_copy" ["_law_node"] (S_copy n)
  | 0 => df_copy_step F T (fun m h => by cases h)
  | n + 1 => df_copy_step F T (fun m h => by cases h; exact df_copy F T n)

theorem df_tree_step (F : Fn0 K mg "_law_tree" s_tree ["_law_state", "_law_depth"]) (T : Bt mg) {n : Nat} (D_take : Df P w K mg base 1 "_law_take" ["_law_state", "_law_many"] S_take) (IH : ∀ m, n = m + 1 → Df P w K mg base (m + 2) "_law_tree" ["_law_state", "_law_depth"] (S_tree m)) : Df P w K mg base (n + 1 + 1) "_law_tree" ["_law_state", "_law_depth"] (S_tree n) := by
  refine df_ok F sc_tree fun f cdv A0 outer s0 H0 E0 G0 ds M A Z hr hl hs tz => ?_
  have nd := sc_tree.nd
  obtain ⟨s, c, m, rfl, tk, hm0, hmn, k⟩ := hs
  -- 32
  refine sws_cons (sw_set 2 ?_ nd)
  refine ew_sliceL ?_
  refine ew_lst ?_
  refine aw_cons ?_
  refine ew_tup ?_
  refine aw_cons ?_
  refine ew_str ?_
  refine aw_cons ?_
  refine ew_str ?_
  refine aw_cons ?_
  refine ew_str ?_
  refine aw_nil ?_
  refine ⟨le_M rfl, ?_⟩
  refine aw_cons ?_
  refine ew_tup ?_
  refine aw_cons ?_
  refine ew_str ?_
  refine aw_cons ?_
  refine ew_str ?_
  refine aw_cons ?_
  refine ew_str ?_
  refine aw_nil ?_
  refine ⟨le_M rfl, ?_⟩
  refine aw_nil ?_
  refine ⟨le_M rfl, ?_⟩
  refine ow_none ?_
  refine ow_some ?_
  refine ew_callD D_take hr (by omega) tz0 ?_
  refine aw_cons ?_
  refine ew_name 0 rfl ?_
  refine aw_cons ?_
  refine ew_int ?_
  refine aw_nil ?_
  refine ⟨rfl, s, c, _, rfl, tk, by decide, fun n1 M1 tk1 of1 hn1 hm1 => ?_⟩
  refine ⟨_, rfl, ?_⟩
  refine ⟨_, .inl rfl, ?_⟩
  have hst : StOk (cutD [.tup [.str "x", .str "y", .str "z"], .tup [.str "a", .str "x", .str "y"]] none (some n1)) := by
    have hz : n1 = 0 ∨ n1 = 1 ∨ n1 = 2 := by omega
    rcases hz with rfl | rfl | rfl <;> exact ⟨by decide +kernel, by decide +kernel⟩
  generalize cutD [D.tup [.str "x", .str "y", .str "z"], .tup [.str "a", .str "x", .str "y"]] none (some n1) = st at hst ⊢
  -- 33
  refine sws_cut (fun δ' M' => ∃ st, StOk st ∧ δ' = [some (.obj s), some (.int m), some (.lst st), none, none] ∧ m ≠ 0 ∧ TkS M' s c ∧ Off s c M M') (sw_if ?_) ?_
  · skip
    refine tw_ww ?_
    refine ww_or ?_
    refine tw_cmp (u_eq hr) (by rfl) ?_
    refine ew_name 1 rfl ?_
    refine ew_int ?_
    first | refine rr_eqS rfl ?_ | refine rr_eqQ (by assumption) (by assumption) ?_
    refine ⟨_, rfl, fun hb1 => ?_, fun hb1 => ?_⟩
    · skip
      refine ww_or1 ?_
      refine tw_cmp (u_eq hr) (by rfl) ?_
      refine ew_callD D_take hr (by omega) tz0 ?_
      refine aw_cons ?_
      refine ew_name 0 rfl ?_
      refine aw_cons ?_
      refine ew_int ?_
      refine aw_nil ?_
      refine ⟨rfl, s, c, _, rfl, tk1, by decide, fun n2 M2 tk2 of2 hn2 hm2 => ?_⟩
      refine ew_int ?_
      first | refine rr_eqS rfl ?_ | refine rr_eqQ (by assumption) (by assumption) ?_
      refine ⟨_, rfl, fun hb2 => ?_, fun hb2 => ?_⟩
      · skip
        -- 34
        refine sws_cons (sw_ret ?_)
        refine ew_lst ?_
        refine aw_cons ?_
        refine ew_tup ?_
        refine aw_cons ?_
        refine ew_name 2 rfl ?_
        refine aw_cons ?_
        refine ew_tup ?_
        refine aw_cons ?_
        refine ew_str ?_
        refine aw_cons ?_
        refine ew_str ?_
        refine aw_cons ?_
        refine ew_str ?_
        refine aw_nil ?_
        refine ⟨le_M rfl, ?_⟩
        refine aw_nil ?_
        refine ⟨le_M rfl, ?_⟩
        refine aw_cons ?_
        refine ew_int ?_
        refine aw_nil ?_
        refine ⟨le_M rfl, ?_⟩
        exact k (.leaf st) _ (Nat.zero_le _) hst tk2 (of1.trans of2)
      · skip
        refine sws_nil ?_
        exact ⟨st, hst, rfl, by simpa [eqSc] using hb1, tk2, of1.trans of2⟩
    · skip
      refine ⟨fun _ => ?_, (fun z => nomatch z)⟩
      -- 34
      refine sws_cons (sw_ret ?_)
      refine ew_lst ?_
      refine aw_cons ?_
      refine ew_tup ?_
      refine aw_cons ?_
      refine ew_name 2 rfl ?_
      refine aw_cons ?_
      refine ew_tup ?_
      refine aw_cons ?_
      refine ew_str ?_
      refine aw_cons ?_
      refine ew_str ?_
      refine aw_cons ?_
      refine ew_str ?_
      refine aw_nil ?_
      refine ⟨le_M rfl, ?_⟩
      refine aw_nil ?_
      refine ⟨le_M rfl, ?_⟩
      refine aw_cons ?_
      refine ew_int ?_
      refine aw_nil ?_
      refine ⟨le_M rfl, ?_⟩
      exact k (.leaf st) _ (Nat.zero_le _) hst tk1 of1
  · skip
    rintro _ M3 ⟨st', hst', rfl, hm0', tk3, of3⟩
    obtain ⟨p, rfl⟩ : ∃ p, n = p + 1 := ⟨n - 1, by omega⟩
    have D_tree := IH p rfl
    -- 35
    refine sws_cons (sw_set 3 ?_ nd)
    refine ew_callD D_tree hr (Nat.le_refl _) tz0 ?_
    refine aw_cons ?_
    refine ew_name 0 rfl ?_
    refine aw_cons ?_
    refine ew_op op_sub ?_
    refine ew_name 1 rfl ?_
    refine ew_int ?_
    refine rr_I0i ?_
    refine aw_nil ?_
    refine ⟨rfl, s, c, _, rfl, tk3, by omega, by omega, fun a M4 ha hoa tk4 of4 => ?_⟩
    -- 36
    refine sws_cons (sw_set 4 ?_ nd)
    refine ew_callD D_tree hr (Nat.le_refl _) tz0 ?_
    refine aw_cons ?_
    refine ew_name 0 rfl ?_
    refine aw_cons ?_
    refine ew_op op_sub ?_
    refine ew_name 1 rfl ?_
    refine ew_int ?_
    refine rr_I0i ?_
    refine aw_nil ?_
    refine ⟨rfl, s, c, _, rfl, tk4, by omega, by omega, fun b M5 hb hob tk5 of5 => ?_⟩
    -- 37
    refine sws_cons (sw_ret ?_)
    refine ew_lst ?_
    refine aw_cons ?_
    refine ew_tup ?_
    refine aw_cons ?_
    refine ew_name 2 rfl ?_
    refine aw_cons ?_
    refine ew_tup ?_
    refine aw_cons ?_
    refine ew_str ?_
    refine aw_cons ?_
    refine ew_str ?_
    refine aw_cons ?_
    refine ew_str ?_
    refine aw_cons ?_
    refine ew_lst ?_
    refine aw_cons ?_
    refine ew_str ?_
    refine aw_nil ?_
    refine ⟨le_M rfl, ?_⟩
    refine aw_cons ?_
    refine ew_ix (u_ix hr) (fun _ _ => rfl) ?_
    refine ew_name 3 rfl ?_
    refine ew_int ?_
    first | refine rr_uT rfl ?_ | refine rr_uL rfl ?_
    refine aw_cons ?_
    refine ew_ix (u_ix hr) (fun _ _ => rfl) ?_
    refine ew_name 4 rfl ?_
    refine ew_int ?_
    first | refine rr_uT rfl ?_ | refine rr_uL rfl ?_
    refine aw_nil ?_
    refine ⟨le_M rfl, ?_⟩
    refine aw_nil ?_
    refine ⟨le_M rfl, ?_⟩
    refine aw_cons ?_
    refine ew_op u_add ?_
    refine ew_op u_add ?_
    refine ew_int ?_
    refine ew_ix (u_ix hr) (fun _ _ => rfl) ?_
    refine ew_name 3 rfl ?_
    refine ew_int ?_
    first | refine rr_uT rfl ?_ | refine rr_uL rfl ?_
    first | refine rr_addI ?_ | refine rr_addL (.inl rfl) (.inl rfl) (by simp) ?_ | refine rr_addS (by simp) ?_
    refine ew_ix (u_ix hr) (fun _ _ => rfl) ?_
    refine ew_name 4 rfl ?_
    refine ew_int ?_
    first | refine rr_uT rfl ?_ | refine rr_uL rfl ?_
    first | refine rr_addI ?_ | refine rr_addL (.inl rfl) (.inl rfl) (by simp) ?_ | refine rr_addS (by simp) ?_
    refine aw_nil ?_
    refine ⟨le_M rfl, ?_⟩
    exact k (.node st' a b) _ (by simp [Tr.dep]; omega) ⟨hst', hoa, hob⟩ tk5 ((of3.trans of4).trans of5)

theorem df_tree (F : Fn0 K mg "_law_tree" s_tree ["_law_state", "_law_depth"]) (T : Bt mg) (D_take : Df P w K mg base 1 "_law_take" ["_law_state", "_law_many"] S_take) : ∀ n, Df P w K mg base (n + 2) "_law_tree" ["_law_state", "_law_depth"] (S_tree n)
  | 0 => df_tree_step F T D_take (fun m h => by cases h)
  | n + 1 => df_tree_step F T D_take (fun m h => by cases h; exact df_tree F T D_take n)

theorem fn_law {f : Addr} {fd : FuncData} (F : Fun K "law" "law" s_law f fd) (T : Bt mg) (D_start : Df P w K mg base (1) "_law_start" ["_law_script"] (S_start)) (D_take : Df P w K mg base (1) "_law_take" ["_law_state", "_law_many"] (S_take)) (D_tree : Df P w K mg base (6) "_law_tree" ["_law_state", "_law_depth"] (S_tree 4)) (D_copy : Df P w K mg base (5) "_law_copy" ["_law_node"] (S_copy 4)) (D_splits_of : Df P w K mg base (6) "splits_of" ["paper"] (S_of 4)) : FnA P w K mg base (7 + 1) f fd ["_law_script"] (S_law) := by
  refine fn_ok F sc_law fun cdv A0 outer s0 H0 E0 G0 ds M A Z hr hl hs tz => ?_
  have nd := sc_law.nd
  obtain ⟨ns, rfl, hl63, k⟩ := hs
  -- 44
  refine sws_cons (sw_set 1 ?_ nd)
  refine ew_callD D_start hr (by decide) tz0 ?_
  refine aw_cons ?_
  refine ew_name 0 rfl ?_
  refine aw_nil ?_
  refine ⟨rfl, ns, rfl, hl63, fun s c M0 tk h1 h2 of0 => ?_⟩
  -- 45
  refine sws_cons (sw_for ?_ (passes_of rfl))
  refine iw_rng1 T.n_range ?_
  refine ew_int ?_
  refine ⟨_, rfl, by omega, by omega, ?_⟩
  refine ⟨fun i δ' M' => ∃ z2 z3 z4 z5, δ' = [some (.rl (ns.map .int)), some (.obj s), z2, z3, z4, z5, none] ∧ TkS M' s c, ⟨none, none, none, none, rfl, tk⟩, fun _ _ _ _ _ => trivial, ?_, ?_⟩
  · skip
    rintro i _ MA d hi hd ⟨z2, z3, z4, z5, rfl, tkA⟩
    refine gw_name 2 nd ?_
    -- 46
    refine sws_cons (sw_set 3 ?_ nd)
    refine ew_callD D_tree hr (by decide) tz0 ?_
    refine aw_cons ?_
    refine ew_name 1 rfl ?_
    refine aw_cons ?_
    refine ew_callD D_take hr (by decide) tz0 ?_
    refine aw_cons ?_
    refine ew_name 1 rfl ?_
    refine aw_cons ?_
    refine ew_int ?_
    refine aw_nil ?_
    refine ⟨rfl, s, c, _, rfl, tkA, by decide, fun n11 M11 tk11 of11 hn11 hm11 => ?_⟩
    refine aw_nil ?_
    refine ⟨rfl, s, c, _, rfl, tk11, by omega, by omega, fun t M3 htd hto tk3 of3 => ?_⟩
    -- 47
    refine sws_cons (sw_set 4 ?_ nd)
    refine ew_tup ?_
    refine aw_cons ?_
    refine ew_str ?_
    refine aw_cons ?_
    refine ew_ix (u_ix hr) (fun _ _ => rfl) ?_
    refine ew_name 3 rfl ?_
    refine ew_int ?_
    first | refine rr_uT rfl ?_ | refine rr_uL rfl ?_
    refine aw_nil ?_
    refine ⟨le_M rfl, ?_⟩
    -- 48
    refine sws_cons (sw_set 5 ?_ nd)
    refine ew_tup ?_
    refine aw_cons ?_
    refine ew_str ?_
    refine aw_cons ?_
    refine ew_callD D_copy hr (by decide) tz0 ?_
    refine aw_cons ?_
    refine ew_ix (u_ix hr) (fun _ _ => rfl) ?_
    refine ew_name 3 rfl ?_
    refine ew_int ?_
    first | refine rr_uT rfl ?_ | refine rr_uL rfl ?_
    refine aw_nil ?_
    refine ⟨rfl, t, rfl, htd, ?_⟩
    refine aw_nil ?_
    refine ⟨le_M rfl, ?_⟩
    -- 49
    refine sws_cons (sw_if ?_)
    refine tw_ww ?_
    refine ww_or ?_
    refine tw_cmp (u_ne hr) (by rfl) ?_
    refine ew_callD D_splits_of hr (by decide) tz0 ?_
    refine aw_cons ?_
    refine ew_name 4 rfl ?_
    refine aw_nil ?_
    refine ⟨rfl, "no", t.D, rfl, fun h => absurd h ne_ny, fun _ => ⟨t, rfl, htd, ?_⟩⟩
    refine ew_ix (u_ix hr) (fun _ _ => rfl) ?_
    refine ew_name 3 rfl ?_
    refine ew_int ?_
    first | refine rr_uT rfl ?_ | refine rr_uL rfl ?_
    first | refine rr_neS rfl ?_ | refine rr_neQ (by assumption) (by assumption) ?_
    refine ⟨_, rfl, fun hb1 => ?_, fun hb1 => ?_⟩
    · skip
      refine ww_or ?_
      refine tw_cmp (u_ne hr) (by rfl) ?_
      refine ew_callD D_splits_of hr (by decide) tz0 ?_
      refine aw_cons ?_
      refine ew_name 4 rfl ?_
      refine aw_nil ?_
      refine ⟨rfl, "no", t.D, rfl, fun h => absurd h ne_ny, fun _ => ⟨t, rfl, htd, ?_⟩⟩
      refine ew_ix (u_ix hr) (fun _ _ => rfl) ?_
      refine ew_name 3 rfl ?_
      refine ew_int ?_
      first | refine rr_uT rfl ?_ | refine rr_uL rfl ?_
      first | refine rr_neS rfl ?_ | refine rr_neQ (by assumption) (by assumption) ?_
      refine ⟨_, rfl, fun hb2 => ?_, fun hb2 => ?_⟩
      · skip
        refine ww_or1 ?_
        refine tw_cmp (u_ne hr) (by rfl) ?_
        refine ew_name 4 rfl ?_
        refine ew_name 5 rfl ?_
        have hE : D.Eqs (.tup [.str "no", t.D]) := by
          obtain ⟨e1, e2⟩ := Tr.eqs t hto
          exact ⟨by simp [D.isPy, D.isPyAll, py_no, e1], by simp [D.deep, D.deepAll]; omega⟩
        refine rr_neQ hE hE ?_
        refine ⟨_, rfl, fun hb3 => ?_, fun hb3 => ?_⟩
        · skip
          rw [hE.refl] at hb3
          cases hb3
        · skip
          refine sws_nil ?_
          refine sws_nil ?_
          exact ⟨_, _, _, _, rfl, tk3⟩
      · skip
        simp [eqSc] at hb2
    · skip
      simp [eqSc] at hb1
  · skip
    rintro _ MA ⟨z2, z3, z4, z5, rfl, tkA⟩
    -- 51
    refine sws_cons (sw_set 6 ?_ nd)
    refine ew_op u_mul ?_
    refine ew_lst ?_
    refine aw_cons ?_
    refine ew_tup ?_
    refine aw_cons ?_
    refine ew_str ?_
    refine aw_cons ?_
    refine ew_str ?_
    refine aw_cons ?_
    refine ew_str ?_
    refine aw_nil ?_
    refine ⟨le_M rfl, ?_⟩
    refine aw_nil ?_
    refine ⟨le_M rfl, ?_⟩
    refine ew_callD D_take hr (by decide) tz0 ?_
    refine aw_cons ?_
    refine ew_name 1 rfl ?_
    refine aw_cons ?_
    refine ew_int ?_
    refine aw_nil ?_
    refine ⟨rfl, s, c, _, rfl, tkA, by decide, fun n11 M11 tk11 of11 hn11 hm11 => ?_⟩
    refine rr_mulL (.inl rfl) (by omega) (by omega) (by simp; omega) ?_
    -- 52
    refine sws_cons (sw_ret ?_)
    refine ew_and ?_
    refine ew_cmp (u_eq hr) (by rfl) ?_
    refine ew_callD D_splits_of hr (by decide) tz0 ?_
    refine aw_cons ?_
    refine ew_tup ?_
    refine aw_cons ?_
    refine ew_str ?_
    refine aw_cons ?_
    refine ew_name 6 rfl ?_
    refine aw_nil ?_
    refine ⟨le_M rfl, ?_⟩
    refine aw_nil ?_
    refine ⟨rfl, "yes", _, rfl, fun _ => ?_, fun h => absurd rfl h⟩
    refine ew_int ?_
    first | refine rr_eqS rfl ?_ | refine rr_eqQ (by assumption) (by assumption) ?_
    refine ⟨_, rfl, fun hb1 => ?_, fun hb1 => ?_⟩
    · skip
      refine ew_one ?_
      refine ew_cmp (u_eq hr) (by rfl) ?_
      refine ew_callD D_splits_of hr (by decide) tz0 ?_
      refine aw_cons ?_
      refine ew_tup ?_
      refine aw_cons ?_
      refine ew_str ?_
      refine aw_cons ?_
      refine ew_tup ?_
      refine aw_cons ?_
      refine ew_lst ?_
      refine aw_nil ?_
      refine ⟨le_M rfl, ?_⟩
      refine aw_cons ?_
      refine ew_tup ?_
      refine aw_cons ?_
      refine ew_str ?_
      refine aw_cons ?_
      refine ew_str ?_
      refine aw_cons ?_
      refine ew_str ?_
      refine aw_nil ?_
      refine ⟨le_M rfl, ?_⟩
      refine aw_nil ?_
      refine ⟨le_M rfl, ?_⟩
      refine aw_nil ?_
      refine ⟨le_M rfl, ?_⟩
      refine aw_nil ?_
      refine ⟨rfl, "no", _, rfl, fun h => absurd h ne_ny, fun _ => ⟨.leaf [], rfl, Nat.zero_le _, ?_⟩⟩
      refine ew_int ?_
      first | refine rr_eqS rfl ?_ | refine rr_eqQ (by assumption) (by assumption) ?_
      exact k _
    · skip
      cases hb1

end

theorem fn0_mk {K : PySem.W.Frag} {h : Heap} {mg : Str → Option Value} {x : Str} {st : Stmt} {ps : List Str} {f : Addr} {oc : Value} {od an : Option Addr} {osl : Array (Option Value)} {kV doc pm cdv ct : Value} (X : K.In h) (G : h.Ns mainGlobals mg)
    (a : PySem.W.nsIn K mainGlobals x = some (some (.ref f))) (l : K.lookup f = some ⟨oc, od, .func (PySem.W.fnOf x x (defArgs st) (defBody st) (defScope st) .none kV doc pm an cdv ct), osl⟩) (c : PySem.W.codeIn K cdv x = true) (k : PySem.W.keepIn K (.ref f) = true)
    (hb : ∀ (kV doc pm : Value) (an : Option Addr) (cdv ct : Value) (us : List Value), us.length = ps.length → bindArgs (PySem.W.fnOf x x (defArgs st) (defBody st) (defScope st) .none kV doc pm an cdv ct) ⟨us, []⟩ = pure (ps.zip us)) : Fn0 K mg x st ps := by
  have F := fun_mk (st := st) l c k
  exact ⟨f, _, F, PySem.W.mg_of X G a, F.binds hb⟩
theorem all_mk {P : Program} {w : World} {K : PySem.W.Frag} {h : Heap} {mg : Str → Option Value} {fa : Addr} (X : K.In h) (G : h.Ns mainGlobals mg) (hfa : mg "law" = some (.ref fa))
    {f0 : Addr} {od0 an0 : Option Addr} {sl0 : Array (Option Value)} {oc0 kV0 dc0 pm0 cd0 ct0 : Value} (a0 : PySem.W.nsIn K mainGlobals "splits_of" = some (some (.ref f0))) (l0 : K.lookup f0 = some ⟨oc0, od0, .func (PySem.W.fnOf "splits_of" "splits_of" (defArgs s_splits_of) (defBody s_splits_of) (defScope s_splits_of) .none kV0 dc0 pm0 an0 cd0 ct0), sl0⟩) (c0 : PySem.W.codeIn K cd0 "splits_of" = true) (k0 : PySem.W.keepIn K (.ref f0) = true)
    {f1 : Addr} {od1 an1 : Option Addr} {sl1 : Array (Option Value)} {oc1 kV1 dc1 pm1 cd1 ct1 : Value} (a1 : PySem.W.nsIn K mainGlobals "splits_in" = some (some (.ref f1))) (l1 : K.lookup f1 = some ⟨oc1, od1, .func (PySem.W.fnOf "splits_in" "splits_in" (defArgs s_splits_in) (defBody s_splits_in) (defScope s_splits_in) .none kV1 dc1 pm1 an1 cd1 ct1), sl1⟩) (c1 : PySem.W.codeIn K cd1 "splits_in" = true) (k1 : PySem.W.keepIn K (.ref f1) = true)
    {f2 : Addr} {od2 an2 : Option Addr} {sl2 : Array (Option Value)} {oc2 kV2 dc2 pm2 cd2 ct2 : Value} (a2 : PySem.W.nsIn K mainGlobals "_law_start" = some (some (.ref f2))) (l2 : K.lookup f2 = some ⟨oc2, od2, .func (PySem.W.fnOf "_law_start" "_law_start" (defArgs s_start) (defBody s_start) (defScope s_start) .none kV2 dc2 pm2 an2 cd2 ct2), sl2⟩) (c2 : PySem.W.codeIn K cd2 "_law_start" = true) (k2 : PySem.W.keepIn K (.ref f2) = true)
    {f3 : Addr} {od3 an3 : Option Addr} {sl3 : Array (Option Value)} {oc3 kV3 dc3 pm3 cd3 ct3 : Value} (a3 : PySem.W.nsIn K mainGlobals "_law_take" = some (some (.ref f3))) (l3 : K.lookup f3 = some ⟨oc3, od3, .func (PySem.W.fnOf "_law_take" "_law_take" (defArgs s_take) (defBody s_take) (defScope s_take) .none kV3 dc3 pm3 an3 cd3 ct3), sl3⟩) (c3 : PySem.W.codeIn K cd3 "_law_take" = true) (k3 : PySem.W.keepIn K (.ref f3) = true)
    {f4 : Addr} {od4 an4 : Option Addr} {sl4 : Array (Option Value)} {oc4 kV4 dc4 pm4 cd4 ct4 : Value} (a4 : PySem.W.nsIn K mainGlobals "_law_tree" = some (some (.ref f4))) (l4 : K.lookup f4 = some ⟨oc4, od4, .func (PySem.W.fnOf "_law_tree" "_law_tree" (defArgs s_tree) (defBody s_tree) (defScope s_tree) .none kV4 dc4 pm4 an4 cd4 ct4), sl4⟩) (c4 : PySem.W.codeIn K cd4 "_law_tree" = true) (k4 : PySem.W.keepIn K (.ref f4) = true)
    {f5 : Addr} {od5 an5 : Option Addr} {sl5 : Array (Option Value)} {oc5 kV5 dc5 pm5 cd5 ct5 : Value} (a5 : PySem.W.nsIn K mainGlobals "_law_copy" = some (some (.ref f5))) (l5 : K.lookup f5 = some ⟨oc5, od5, .func (PySem.W.fnOf "_law_copy" "_law_copy" (defArgs s_copy) (defBody s_copy) (defScope s_copy) .none kV5 dc5 pm5 an5 cd5 ct5), sl5⟩) (c5 : PySem.W.codeIn K cd5 "_law_copy" = true) (k5 : PySem.W.keepIn K (.ref f5) = true)
    {f6 : Addr} {od6 an6 : Option Addr} {sl6 : Array (Option Value)} {oc6 kV6 dc6 pm6 cd6 ct6 : Value} (a6 : PySem.W.nsIn K mainGlobals "law" = some (some (.ref f6))) (l6 : K.lookup f6 = some ⟨oc6, od6, .func (PySem.W.fnOf "law" "law" (defArgs s_law) (defBody s_law) (defScope s_law) .none kV6 dc6 pm6 an6 cd6 ct6), sl6⟩) (c6 : PySem.W.codeIn K cd6 "law" = true) (k6 : PySem.W.keepIn K (.ref f6) = true)
    (z_len : PySem.W.nsIn K mainGlobals "len" = some none)
    (z_int : PySem.W.nsIn K mainGlobals "int" = some none)
    (z_abs : PySem.W.nsIn K mainGlobals "abs" = some none)
    (z_list : PySem.W.nsIn K mainGlobals "list" = some none)
    (z_range : PySem.W.nsIn K mainGlobals "range" = some none) :
    ∃ fd : FuncData, (∀ (s : Shared) (v : Value), BindsTo s fd ⟨[v], []⟩ [("_law_script", v)]) ∧ ∀ base : Heap, K.In base → base.Ns mainGlobals mg → FnOk P w K mg base (L2.CX P w) 8 fa fd ["_law_script"] (spOf K 1 S_law) := by
  have T : Bt mg := ⟨PySem.W.mg_none_of X G z_len, PySem.W.mg_none_of X G z_int, PySem.W.mg_none_of X G z_abs, PySem.W.mg_none_of X G z_list, PySem.W.mg_none_of X G z_range⟩
  have F_splits_of : Fn0 K mg "splits_of" s_splits_of ["paper"] := fn0_mk X G a0 l0 c0 k0 (fun _ _ _ _ _ _ us hl => match us, hl with | [_], _ => rfl)
  have F_splits_in : Fn0 K mg "splits_in" s_splits_in ["node"] := fn0_mk X G a1 l1 c1 k1 (fun _ _ _ _ _ _ us hl => match us, hl with | [_], _ => rfl)
  have F_start : Fn0 K mg "_law_start" s_start ["_law_script"] := fn0_mk X G a2 l2 c2 k2 (fun _ _ _ _ _ _ us hl => match us, hl with | [_], _ => rfl)
  have F_take : Fn0 K mg "_law_take" s_take ["_law_state", "_law_many"] := fn0_mk X G a3 l3 c3 k3 (fun _ _ _ _ _ _ us hl => match us, hl with | [_, _], _ => rfl)
  have F_tree : Fn0 K mg "_law_tree" s_tree ["_law_state", "_law_depth"] := fn0_mk X G a4 l4 c4 k4 (fun _ _ _ _ _ _ us hl => match us, hl with | [_, _], _ => rfl)
  have F_copy : Fn0 K mg "_law_copy" s_copy ["_law_node"] := fn0_mk X G a5 l5 c5 k5 (fun _ _ _ _ _ _ us hl => match us, hl with | [_], _ => rfl)
  have F_law : Fn0 K mg "law" s_law ["_law_script"] := fn0_mk X G a6 l6 c6 k6 (fun _ _ _ _ _ _ us hl => match us, hl with | [_], _ => rfl)
  have e := hfa.symm.trans (PySem.W.mg_of X G a6)
  cases e
  refine ⟨PySem.W.fnOf "law" "law" (defArgs s_law) (defBody s_law) (defScope s_law) .none kV6 dc6 pm6 an6 cd6 ct6, fun s v => .of_eq rfl, fun base hb1 hb2 => ?_⟩
  have D_take := df_take (P := P) (w := w) (base := base) F_take T
  have D_start := df_start (P := P) (w := w) (base := base) F_start T
  have D_tree := df_tree (P := P) (w := w) (base := base) F_tree T D_take 4
  have D_copy := df_copy (P := P) (w := w) (base := base) F_copy T 4
  have D_in := df_splits_in (P := P) (w := w) (base := base) F_splits_in T 4
  have D_of := df_splits_of (P := P) (w := w) (base := base) F_splits_of T D_in
  exact fn_law (fun_mk (st := s_law) l6 c6 k6) T D_start D_take D_tree D_copy D_of
theorem only_ok {K : PySem.W.Frag} {H : Hp} : Ok K H (fun _ => none) H := ⟨Same.refl _, fun _ _ h => by cases h⟩
theorem repAll_int {K : PySem.W.Frag} {G : Hp} : ∀ ns : List Int, RepAll K G (ns.map V.int) (ns.map D.int)
  | [] => .nil
  | n :: ns => .cons (.int n) (repAll_int ns)
theorem walk {l : PySem.W.OpenLaw} {q : Program} {loose : List Str} {XP : (Str → Option Value) → Heap → Prop} {YP : World → Heap → Prop} {d : DefRec} {K : Params → PySem.W.Frag} (hn : l.most = some 63) (hdf : d.params.defaults = [])
    (hY : ∀ (w : World) (h : Heap), YP w h → (K w.params).In h)
    (F : ∀ (w : World) (mg : Str → Option Value) (fa : Addr) (h : Heap), (K w.params).In h → h.Ns mainGlobals mg → mg d.name = some (.ref fa) →
      ∃ fd : FuncData, (∀ (s : Shared) (u : Value), BindsTo s fd ⟨[u], []⟩ [("_law_script", u)]) ∧ ∀ base : Heap, (K w.params).In base → base.Ns mainGlobals mg → FnOk l.prog w (K w.params) mg base (L2.CX l.prog w) 8 fa fd ["_law_script"] (spOf (K w.params) 1 S_law)) :
    PySem.W.WalkO q loose XP YP l.row.toRowW d [] (fun f vs => PySem.call f vs) :=
  L2.walk_of (n := 63) (k := 8) (x := "_law_script") (CX := fun w => L2.CX l.prog w) (sp := fun w => spOf (K w.params) 1 S_law) hn (by decide) hdf ⟨rfl, by decide, by decide⟩ hY F
    (fun w H a ns hl _ hS => ⟨rfl, H, fun _ => none, [.rl (ns.map .int)], fun d _ => d = .bl true, fun _ _ _ => False, .cons (.rl hS (repAll_int ns)) .nil, only_ok, ⟨ns, rfl, hl, fun _ => rfl⟩, fun d M' v G' H' hd _ _ r => by subst hd; cases r; rfl, fun _ _ _ _ _ _ z => z.elim⟩)
    (fun w H s e s' h => by
      obtain ⟨_, _, _, _, _, _, _, _, _, _, _, _, z⟩ := h
      exact z.elim)
end Lw
open PySem PySem.W PyProof.Rows
set_option maxRecDepth 100000 in
set_option maxHeartbeats 0 in
theorem PySem.Challenge.cw_linkscale_k53_splits_counted_holds : PySem.Challenge.rw_linkscale_k53_splits_counted.Holds := by
  w_on; o_law; k_head; (case hw => w_witness2)
  k_fill
  refine Lw.walk (l := PySem.Challenge.rw_linkscale_k53_splits_counted) rfl rfl (fun w h Y => PySem.W.kIn_of Y) ?F
  case F =>
    intro w mg fa h KX G hmg
    refine' Lw.all_mk KX G hmg ?a0 ?l0 ?c0 ?k0 ?a1 ?l1 ?c1 ?k1 ?a2 ?l2 ?c2 ?k2 ?a3 ?l3 ?c3 ?k3 ?a4 ?l4 ?c4 ?k4 ?a5 ?l5 ?c5 ?k5 ?a6 ?l6 ?c6 ?k6 ?z_len ?z_int ?z_abs ?z_list ?z_range
    (case a0 => k_is)
    (case l0 => k_is)
    (case c0 => k_is)
    (case k0 => k_is)
    (case a1 => k_is)
    (case l1 => k_is)
    (case c1 => k_is)
    (case k1 => k_is)
    (case a2 => k_is)
    (case l2 => k_is)
    (case c2 => k_is)
    (case k2 => k_is)
    (case a3 => k_is)
    (case l3 => k_is)
    (case c3 => k_is)
    (case k3 => k_is)
    (case a4 => k_is)
    (case l4 => k_is)
    (case c4 => k_is)
    (case k4 => k_is)
    (case a5 => k_is)
    (case l5 => k_is)
    (case c5 => k_is)
    (case k5 => k_is)
    (case a6 => k_is)
    (case l6 => k_is)
    (case c6 => k_is)
    (case k6 => k_is)
    (case z_len => k_is)
    (case z_int => k_is)
    (case z_abs => k_is)
    (case z_list => k_is)
    (case z_range => k_is)
